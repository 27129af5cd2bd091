import PyProof.Rows.All
import Wide.All
import OpenK.AllK
import Wide.FinOn
import PyProof.EqAt
import PyProof.EqKinds
import PyProof.TupleCall
import KE.KStateDown
import Open.SpecLaws
import KE.OsGo
import HandS.ForSpec
import HandS.Comp
import HandS.Iter
import HandS.Text
import HandS.Dict
import HandS.More
import HandS.Defaults
import HandS.ExcInit
import HandS.ExcField
import HandS.NoneIn
import HandS.TupAny
import HandS.WideBits
import HandS.Conv
import HandS.Strs
import HandS.Evl
import HandS.Head0
import HandS.Head1
import HandS.Head2
import HandS.HeadHook1
import HandS.HeadHook2
import HandS.HeadHook3
import KE.GoesEnum
import KE.GoesMore
import KE.DataMinMax
import KE.DatumOrd
import HandS.Walk
import PySem.Challenge.RW_heraldcoats_s06_read
set_option Elab.async false
set_option linter.all false
set_option maxRecDepth 100000
set_option maxHeartbeats 4000000

/-! ### A. words of this claim: a def ready to be called, classes made, own errors -/
namespace Hc
open PySem PySem.Spec PyProof.Rows L2
abbrev B : Type := List UInt8
/-! #### names and constants -/
section
variable {X : Cx}
theorem pe_gi {x : Str} {i : Int} {pos : Pos} (h : ∃ t, X.mg x = some (.int i t)) (hg : Gl X x := by rfl) (hd : (x == ("__debug__" : Str)) = false := by decide) : PE X (.Name x pos) (tC (.int i)) := by
  obtain ⟨t, e⟩ := h
  exact pe_glob hg e ⟨t, rfl⟩ hd
theorem pe_gs {x z : Str} {pos : Pos} (h : ∃ t, X.mg x = some (.str z t)) (hg : Gl X x := by rfl) (hd : (x == ("__debug__" : Str)) = false := by decide) : PE X (.Name x pos) (tC (.str z)) := by
  obtain ⟨t, e⟩ := h
  exact pe_glob hg e ⟨t, rfl⟩ hd
theorem pe_gr {x : Str} {a : Addr} {pos : Pos} (h : X.mg x = some (.ref a)) (hg : Gl X x := by rfl) (hd : (x == ("__debug__" : Str)) = false := by decide) : PE X (.Name x pos) (tC (.ref a)) := pe_glob hg h rfl hd
end
/-! #### defs -/
/-- the def x of the top keeps the promise sp -/
structure Cal (P : Program) (w : World) (K : PySem.W.Frag) (mg : Str → Option Value) (base : Heap) (CX : CXT) (k : Nat) (x : Str) (ps : List Str) (sp : Sp) : Prop where
  ex : ∃ fd : FuncData, FnOk P w K mg base CX k (He.ga K x) fd ps sp ∧ Binds K fd ps []
  g : mg x = some (.ref (He.ga K x))
  kp : PySem.W.keepIn K (.ref (He.ga K x)) = true
/-- the class x of the top is made by an __init__ that keeps the promise sp -/
structure Mak (P : Program) (w : World) (K : PySem.W.Frag) (mg : Str → Option Value) (base : Heap) (k : Nat) (x : Str) (ps : List Str) (sp : Sp) : Prop where
  ex : ∃ fd : FuncData, FnOk P w K mg base CX0 k (He.ma K (He.ga K x) "__init__") fd ps sp ∧ Binds K fd ps []
  m : Mk K (He.ga K x) (He.ma K (He.ga K x) "__init__")
  g : mg x = some (.ref (He.ga K x))
/-- the same of an own error's class over ValueError -/
structure Exq (P : Program) (w : World) (K : PySem.W.Frag) (mg : Str → Option Value) (base : Heap) (k : Nat) (x : Str) (ps : List Str) (sp : Sp) : Prop where
  ex : ∃ fd : FuncData, FnOk P w K mg base CX0 k (He.ma K (He.ga K x) "__init__") fd ps sp ∧ Binds K fd ps []
  T : OexC K (He.ga K x)
  iC : PySem.W.findIn K (.ref (He.ga K x)) "__init__" = some (some (.ref (He.ma K (He.ga K x) "__init__")))
  tI : PySem.W.typeIn K (.ref (He.ma K (He.ga K x) "__init__")) = some (.type "function")
  g : mg x = some (.ref (He.ga K x))
theorem Cal.mono {P : Program} {w : World} {K : PySem.W.Frag} {mg : Str → Option Value} {base : Heap} {CX : CXT} {j k : Nat} {x : Str} {ps : List Str} {sp : Sp} (U : Cal P w K mg base CX j x ps sp) (h : j ≤ k) : Cal P w K mg base CX k x ps sp := by
  obtain ⟨⟨fd, F, b⟩, g, kp⟩ := U
  exact ⟨⟨fd, F.mono h, b⟩, g, kp⟩
theorem Cal.imp {P : Program} {w : World} {K : PySem.W.Frag} {mg : Str → Option Value} {base : Heap} {CX : CXT} {k : Nat} {x : Str} {ps : List Str} {sp sp' : Sp} (U : Cal P w K mg base CX k x ps sp) (h : ∀ vs H Q E, sp' vs H Q E → sp vs H Q E) : Cal P w K mg base CX k x ps sp' := by
  obtain ⟨⟨fd, F, b⟩, g, kp⟩ := U
  exact ⟨⟨fd, F.imp h, b⟩, g, kp⟩
section
variable {X : Cx} {CX : CXT} {k : Nat} {x : Str} {ps : List Str} {sp : Sp} {E : XK} {p pos : Pos} {e : Expr} {es : List Expr} {t : TA}
theorem pe_cal (U : Cal X.prog X.w X.K X.mg X.base CX k x ps sp) (hr : Room k X.A) (hx : Passes CX X E) (ha : PA X (e :: es) t) (hg : Gl X x := by rfl) (hdb : (x == ("__debug__" : Str)) = false := by decide)
    (he : starEach (e :: es) X.env = (false, eval e X.env) :: starEach es X.env := by rfl) (hpl : (backTo pos (starEach es X.env)).any (·.1) = false := by rfl) : PE X (.Call (.Name x p) (e :: es) [] pos) (tCall sp [] E t) := by
  obtain ⟨⟨fd, F, b⟩, g, kp⟩ := U
  exact pe_call F hr hg g kp b .nil hx ha hdb he hpl
theorem pe_cal0 (U : Cal X.prog X.w X.K X.mg X.base CX k x ps sp) (hr : Room k X.A) (hx : Passes CX X E) (hg : Gl X x := by rfl) (hdb : (x == ("__debug__" : Str)) = false := by decide) : PE X (.Call (.Name x p) [] [] pos) (tCall sp [] E tNil) := by
  obtain ⟨⟨fd, F, b⟩, g, kp⟩ := U
  exact pe_call0 F hr hg g kp b .nil hx hdb
theorem pe_calS {ES : L2.St → XK} (U : Cal X.prog X.w X.K X.mg X.base CX k x ps sp) (hr : Room k X.A) (hx : ∀ σ, PassesAt CX X σ (ES σ)) (ha : PA X (e :: es) t) (hg : Gl X x := by rfl) (hdb : (x == ("__debug__" : Str)) = false := by decide)
    (he : starEach (e :: es) X.env = (false, eval e X.env) :: starEach es X.env := by rfl) (hpl : (backTo pos (starEach es X.env)).any (·.1) = false := by rfl) : PE X (.Call (.Name x p) (e :: es) [] pos) (tCallS sp ES t) := by
  obtain ⟨⟨fd, F, b⟩, g, kp⟩ := U
  exact pe_callS F hr hg g kp b hx ha hdb he hpl
theorem pe_mak (U : Mak X.prog X.w X.K X.mg X.base k x ps sp) (hr : Room (k + 1) X.A) (ha : PA X (e :: es) t) (hg : Gl X x := by rfl) (hdb : (x == ("__debug__" : Str)) = false := by decide)
    (he : starEach (e :: es) X.env = (false, eval e X.env) :: starEach es X.env := by rfl) (hpl : (backTo pos (starEach es X.env)).any (·.1) = false := by rfl) : PE X (.Call (.Name x p) (e :: es) [] pos) (tMake (He.ga X.K x) sp [] E0 t) := by
  obtain ⟨⟨fd, F, b⟩, m, g⟩ := U
  exact pe_make m F hr hg g b .nil pass0 ha hdb he hpl
theorem pmk_exq (U : Exq X.prog X.w X.K X.mg X.base k x ps sp) (hr : Room (k + 1) X.A) (ha : PA X (e :: es) t) (hg : Gl X x := by rfl) (hdb : (x == ("__debug__" : Str)) = false := by decide)
    (he : starEach (e :: es) X.env = (false, eval e X.env) :: starEach es X.env := by rfl) (hpl : (backTo pos (starEach es X.env)).any (·.1) = false := by rfl) : PMk X (.Call (.Name x p) (e :: es) [] pos) (tMkO (He.ga X.K x) sp [] t) := by
  obtain ⟨⟨fd, F, b⟩, T, iC, tI, g⟩ := U
  exact pmk_oex T iC tI F hr b .nil pass0 hg g ha hdb he hpl
end
/-- nobody calls it -/
theorem cal_never {P : Program} {w : World} {K : PySem.W.Frag} {mg : Str → Option Value} {base : Heap} {CX : CXT} {k : Nat} {x : Str} {ps : List Str} {st : Stmt} {f : Addr} {fd : FuncData} : FnOk P w K mg base CX k f fd ps (fun _ _ _ _ => False) :=
  ⟨fun _ _ _ _ h => h.elim, fun _ _ _ _ _ _ _ _ _ _ _ _ _ h => h.elim⟩
/-! #### the class of an own error, decided -/
def oexB (K : PySem.W.Frag) (C : Addr) : Bool := match K.lookup C with
  | some ⟨.type "type", _, .cls cd, sl⟩ => (match cd.mro, sl.toList with
    | .ref C' :: bm, [_, _, _, _, some (.builtin n), _] => C' == C && n == "ValueError.__new__" && !cd.hasDel && cd.hasDict && PySem.HandSPX.refsVE bm
    | _, _ => false)
  | _ => false
theorem oexB_ok {K : PySem.W.Frag} {C : Addr} (q : oexB K C = true) : ∃ nm q N bs bm sn sub ab col dd k0 k1 k2 k3 k5, K.lookup C = some (excClassObj nm q C N bs bm true sn sub ab col dd k0 k1 k2 k3 k5 "ValueError.__new__") ∧ PySem.HandSPX.refsVE bm = true := by
  unfold oexB at q
  split at q
  · rename_i dd cd sl ho
    split at q
    · rename_i C' bm k0 k1 k2 k3 n k5 hm hs
      simp only [Bool.and_eq_true, beq_iff_eq, Bool.not_eq_true'] at q
      obtain ⟨⟨⟨⟨rfl, rfl⟩, hdel⟩, hdict⟩, ht⟩ := q
      obtain ⟨nm, bs, mro, ns, qn, hd, sn, sub, ab, col, del⟩ := cd
      dsimp only at hm hdel hdict
      subst hm hdel hdict
      have hsl : sl = #[k0, k1, k2, k3, some (.builtin "ValueError.__new__"), k5] := by
        obtain ⟨l⟩ := sl
        simp only at hs
        rw [hs]
      subst hsl
      exact ⟨nm, qn, ns, bs, bm, sn, sub, ab, col, dd, k0, k1, k2, k3, k5, ho, ht⟩
    · cases q
  · cases q
/-- what is asked of the class x of an own error whose fields are fs -/
def errB (K : PySem.W.Frag) (x : Str) (fs : List Str) : Bool :=
  oexB K (He.ga K x) && (decide (PySem.W.findIn K (.ref (He.ga K x)) "__setattr__" = some (some (.builtin "object.__setattr__"))) && (decide (PySem.W.subIn K (.ref (He.ga K x)) (.type "BaseException") = some true) &&
    (decide (PySem.W.typeIn K (.ref (He.ga K x)) = some (.type "type")) && (PySem.W.keepIn K (.ref (He.ga K x)) && (decide (PySem.W.findIn K (.ref (He.ga K x)) "__init__" = some (some (.ref (He.ma K (He.ga K x) "__init__")))) &&
    (decide (PySem.W.typeIn K (.ref (He.ma K (He.ga K x) "__init__")) = some (.type "function")) && (xfB K (He.ga K x) && (decide (PySem.W.exmOne K (.ref (He.ga K x)) (.ref (He.ga K x)) = some true) && fs.all fun f => decide (PySem.W.findIn K (.ref (He.ga K x)) f = some none)))))))))
structure ErrT (K : PySem.W.Frag) (x : Str) (fs : List Str) : Prop where
  T : OexC K (He.ga K x)
  iC : PySem.W.findIn K (.ref (He.ga K x)) "__init__" = some (some (.ref (He.ma K (He.ga K x) "__init__")))
  tI : PySem.W.typeIn K (.ref (He.ma K (He.ga K x) "__init__")) = some (.type "function")
  xf : XfC K (He.ga K x)
  me : PySem.W.exmOne K (.ref (He.ga K x)) (.ref (He.ga K x)) = some true
  no : ∀ f ∈ fs, PySem.W.findIn K (.ref (He.ga K x)) f = some none
theorem errB_ok {K : PySem.W.Frag} {x : Str} {fs : List Str} (h : errB K x fs = true) : ErrT K x fs := by
  unfold errB at h
  simp only [Bool.and_eq_true, decide_eq_true_eq, List.all_eq_true] at h
  obtain ⟨h1, h2, h3, h4, h5, h6, h7, h8, h9, h10⟩ := h
  exact ⟨⟨oexB_ok h1, h2, h3, h4, h5⟩, h6, h7, xfB_ok h8, h9, h10⟩
/-! #### the heap: what stays, what is new -/
/-- all but the object at s is as it was -/
def Bt (s : Addr) (H H' : Hp) : Prop := ∀ b o, b ≠ s → H b = some o → H' b = some o
theorem Bt.refl {s : Addr} {H : Hp} : Bt s H H := fun _ _ _ h => h
theorem Bt.trans {s : Addr} {H H1 H2 : Hp} (a : Bt s H H1) (b : Bt s H1 H2) : Bt s H H2 := fun c o n h => b c o n (a c o n h)
theorem Bt.same {s : Addr} {H H1 : Hp} (a : Same H H1) : Bt s H H1 := fun c o _ h => a c o h
theorem Bt.new {s : Addr} {H H1 : Hp} {p : Addr} {o : HO} (a : Bt s H H1) (hp : H1 p = none) : Bt s H (upd H1 p o) := fun c u n h => by
  rw [upd_ne (ne_of_none (a c u n h) hp)]
  exact a c u n h
theorem Bt.put {s : Addr} {H H1 : Hp} {o : HO} (a : Bt s H H1) : Bt s H (upd H1 s o) := fun c u n h => by
  rw [upd_ne n]
  exact a c u n h
theorem Same.new {H H1 : Hp} {p : Addr} {o : HO} (a : Same H H1) (hp : H1 p = none) : Same H (upd H1 p o) := fun c u h => by
  rw [upd_ne (ne_of_none (a c u h) hp)]
  exact a c u h
theorem Bt.seq {K : PySem.W.Frag} {s a C dx : Addr} {fs : List (Str × V)} {H H' : Hp} {xs : List V} (e : Bt s H H') (hs : H s = some (.ins C dx fs)) (h : SqL K H a xs) : SqL K H' a xs := by
  rcases h with (h | ⟨o, h⟩) | h
  · exact .inl (.inl (e _ _ (ne_of h hs (by intro z; cases z)) h))
  · exact .inl (.inr ⟨o, e _ _ (ne_of h hs (by intro z; cases z)) h⟩)
  · exact .inr h
theorem Bt.seqT {K : PySem.W.Frag} {s a C dx : Addr} {fs : List (Str × V)} {H H' : Hp} {xs : List V} (e : Bt s H H') (hs : H s = some (.ins C dx fs)) (h : SqT K H a xs) : SqT K H' a xs := by
  rcases h with (h | ⟨o, h⟩) | h
  · exact .inl (.inl (e _ _ (ne_of h hs (by intro z; cases z)) h))
  · exact .inl (.inr ⟨o, e _ _ (ne_of h hs (by intro z; cases z)) h⟩)
  · exact .inr h
/-- what H' has and H had not -/
def Dn (H H' : Hp) : Hp := fun a => match H a with
  | some _ => none
  | none => H' a
theorem dn_of {H H' : Hp} {a : Addr} {o : HO} (n : H a = none) (h : H' a = some o) : Dn H H' a = some o := by
  unfold Dn
  rw [n]
  exact h
theorem of_dn {H H' : Hp} {a : Addr} {o : HO} (h : Dn H H' a = some o) : H a = none ∧ H' a = some o := by
  unfold Dn at h
  cases q : H a with
  | none =>
    rw [q] at h
    exact ⟨rfl, h⟩
  | some u =>
    rw [q] at h
    cases h
theorem dn_same {H H' : Hp} : Same (Dn H H') H' := fun _ _ h => (of_dn h).2
theorem dn_mono {H H' G G' : Hp} (h1 : ∀ a, G a = none → H a = none) (h2 : ∀ a o, G a = none → G' a = some o → H' a = some o) : Same (Dn G G') (Dn H H') := fun a o h =>
  dn_of (h1 a (of_dn h).1) (h2 a o (of_dn h).1 (of_dn h).2)
theorem Bt.none {s : Addr} {H H' : Hp} {so : HO} (e : Bt s H H') (hs : H' s = some so) : ∀ a, H' a = Option.none → H a = Option.none := fun a h => by
  cases q : H a with
  | none => rfl
  | some o =>
    by_cases c : a = s
    · rw [c, hs] at h
      cases h
    · rw [e a o c q] at h
      cases h
end Hc
namespace Hc
open PySem PySem.Spec PyProof.Rows L2
section
variable {P : Program} {w : World} {K : PySem.W.Frag} {mg : Str → Option Value} {base : Heap} {N : List Str} {q : Str} {sc : Scope} {f : Addr} {cdv : Value} {A : Around} {outer : List Env} {s : Shared} {H : Hp} {E : XK}
theorem tkX : Takes (cxOf (L2.CX P w) P w K mg base N q sc f cdv A outer s H E) (fun cls d _ H => E cls d H) := takes_of rfl rfl rfl rfl
theorem paX : Passes (L2.CX P w) (cxOf (L2.CX P w) P w K mg base N q sc f cdv A outer s H E) E := passes_call tkX fun _ _ _ _ z => z
theorem poX {CX : CXT} : PassesOwn (model P w) (cxOf CX P w K mg base N q sc f cdv A outer s H E).A (cxOf CX P w K mg base N q sc f cdv A outer s H E).env (cxOf CX P w K mg base N q sc f cdv A outer s H E).xe := passes_of rfl
theorem p0X {X : Cx} {E : XK} : Passes CX0 X E := fun _ _ _ _ _ _ _ h => h.elim
/-- a def of the text as the top leaves it: no defaults -/
structure Def (K : PySem.W.Frag) (mg : Str → Option Value) (x : Str) (st : Stmt) (ps : List Str) : Prop where
  ex : ∃ fd : FuncData, FunD K x x (defArgs st) (defBody st) (defScope st) [] [] (He.ga K x) fd ∧ Binds K fd ps []
  g : mg x = some (.ref (He.ga K x))
theorem Def.cal {CX : CXT} {x : Str} {st : Stmt} {N ps : List Str} {k : Nat} {sp : Sp} (D : Def K mg x st ps) (S : FnScope N ps (defScope st)) (len : ∀ vs H Q E, sp vs H Q E → vs.length = ps.length)
    (hbody : ∀ (cdv : Value) (A : Around) (outer : List Env) (s : Shared) (H : Hp) (vs : List V) (Q : VK) (E : XK), Room k (A.deeper (envOfC x (defScope st) s.heap.objs.size (He.ga K x) cdv)) → sp vs H Q E →
      ∃ t, PSs (cxOf CX P w K mg base N x (defScope st) (He.ga K x) cdv A outer s H E) (defBody st) t ∧ t { nx := fun _ H' => Q .non H', rt := Q } (start N vs) H) : Cal P w K mg base CX (k + 1) x ps sp := by
  obtain ⟨⟨fd, F, b⟩, g⟩ := D
  exact ⟨⟨fd, F.ok S len hbody, b⟩, g, F.kp⟩
/-- the __init__ of the class x -/
def DefI (K : PySem.W.Frag) (x q : Str) (st : Stmt) (ps : List Str) : Prop := ∃ fd : FuncData, FunD K "__init__" q (defArgs st) (defBody st) (defScope st) [] [] (He.ma K (He.ga K x) "__init__") fd ∧ Binds K fd ps []
theorem DefI.ok {CX : CXT} {x q : Str} {st : Stmt} {N ps : List Str} {k : Nat} {sp : Sp} (D : DefI K x q st ps) (S : FnScope N ps (defScope st)) (len : ∀ vs H Q E, sp vs H Q E → vs.length = ps.length)
    (hbody : ∀ (cdv : Value) (A : Around) (outer : List Env) (s : Shared) (H : Hp) (vs : List V) (Q : VK) (E : XK), Room k (A.deeper (envOfC q (defScope st) s.heap.objs.size (He.ma K (He.ga K x) "__init__") cdv)) → sp vs H Q E →
      ∃ t, PSs (cxOf CX P w K mg base N q (defScope st) (He.ma K (He.ga K x) "__init__") cdv A outer s H E) (defBody st) t ∧ t { nx := fun _ H' => Q .non H', rt := Q } (start N vs) H) :
    ∃ fd : FuncData, FnOk P w K mg base CX (k + 1) (He.ma K (He.ga K x) "__init__") fd ps sp ∧ Binds K fd ps [] := by
  obtain ⟨fd, F, b⟩ := D
  exact ⟨fd, F.ok S len hbody, b⟩
end
end Hc

/-! ### H. the head's facts, the row's end -/
namespace Hc
open PySem PySem.Spec PyProof.Rows L2
abbrev AlY : Type := He.AlT × Bool
open PySem.W (WData Codec OpenSpec Well WellAll ReadsW ReadsAllW)
def obsY (fa : List He.Fa) (fn : List He.DefD) (ts : List He.Tab) (ex : PySem.W.Frag → Bool) (K : PySem.W.Frag) : AlY := (He.obsT fa fn ts K, ex K)
def obsYG (n : Nat) (fa : List He.Fa) (fn : List He.DefD) (ts : List He.Tab) (ex : PySem.W.Frag → Bool) (g : Addr → Option Obj) : AlY := obsY fa fn ts ex (He.frG g (He.asD g n))
def valY (fn : List He.DefD) (ts : List He.Tab) (w : World) : AlY := (He.valT fn ts w, true)
def hookY (n : Nat) (fa : List He.Fa) (fn : List He.DefD) (ts : List He.Tab) (ex : PySem.W.Frag → Bool) : PySem.W.Hook where
  α := AlY
  obs := fun s => obsYG n fa fn ts ex s.heap.get?
  val := fun w => valY fn ts w
  says := fun w h => ∃ K : PySem.W.Frag, K.In h ∧ He.SaysT fa fn ts w K ∧ ex K = true
  of := fun _ _ e => ⟨_, He.frG_in, congrArg (fun z : AlY => z.1) e, congrArg (fun z : AlY => z.2) e⟩
  keeps := fun _ _ _ ⟨K, hK, c⟩ k => ⟨K, PySem.W.Frag.In.keeps hK k, c⟩
theorem obsYG_eq {n : Nat} {fa : List He.Fa} {fn : List He.DefD} {ts : List He.Tab} {ex : PySem.W.Frag → Bool} {g : Addr → Option Obj} {s : Shared} (h : ∀ a, g a = s.heap.get? a) : obsYG n fa fn ts ex g = (hookY n fa fn ts ex).obs s := by
  have e : g = s.heap.get? := funext h
  rw [e] <;> rfl
theorem fact_of {fa : List He.Fa} {fn : List He.DefD} {K : PySem.W.Frag} (c : He.SaysD fa fn K) (i : Nat) {f : He.Fa} (h : fa[i]? = some f) : f.ok K = true := c.fact i h
/-- the goal that the head leaves, where the head's facts bring the written part -/
theorem walk_specE {r : PySem.W.OpenSpec} {k : Nat} {q : Program} {loose : List Str} {XP : (Str → Option Value) → Heap → Prop} {YP : World → Heap → Prop} {d : DefRec} {CX : CXT} {ps : List Str} {sp : PySem.W.Frag → Sp}
    (hwell : r.wellSaid = true) (hdf : d.params.defaults = []) (hlen : r.args.length = ps.length) (hr : Room k callerA)
    (F : ∀ (w : World) (mg : Str → Option Value) (fa : Addr) (h : Heap), YP w h → h.Ns mainGlobals mg → mg d.name = some (.ref fa) →
      ∃ K : PySem.W.Frag, K.In h ∧ ∃ fd : FuncData, (∀ (s : Shared) (us : List Value), us.length = ps.length → BindsTo s fd ⟨us, []⟩ (ps.zip us)) ∧
        ∀ base : Heap, K.In base → base.Ns mainGlobals mg → FnOk r.prog w K mg base CX k fa fd ps (sp K))
    (hsp : ∀ (K : PySem.W.Frag) (H : Hp) (xs : List V) (a : PySem.W.Codec.denoteAll r.args), OnlyF H → PySem.W.Codec.withinAll r.args a = true → PySem.W.Codec.app r.args r.asked a = true → DwAll K H xs (PySem.W.Codec.encAll r.args a) →
      sp K xs H (fun v H' => Dw K H' v (r.ret.enc (PySem.W.Codec.app r.args r.f a))) fun _ _ _ => False)
    (hCX : ∀ (H : Hp) (s : Shared) (e : Value) (s' : Shared), CX [] H s (fun _ _ _ => False) e s' → False) :
    PySem.W.WalkOS q loose XP YP r d [] (fun f vs => PySem.call f vs) := by
  intro w s₀ s₁ mg mb G Y fa o pm cd doc dV kV ho hd hcd hD hmg hg args vals as hpre hlay hrd hwl hlo
  obtain ⟨a, e1, e2⟩ := PySem.W.os_pre_some hpre
  obtain ⟨e3, hwi⟩ := PySem.W.Codec.encAll_of_decAll r.args args a e1
  subst e3
  obtain ⟨K, KX, fd, hb, hF⟩ := F w mg fa _ Y G.T.g hmg
  refine PySem.W.enter_call (codeAny_mono (spec_call (R := []) (cl := classAt s₀.heap) (d0 := r.ret.enc (PySem.W.Codec.app r.args r.f a)) KX G.T.g G.T.b G.T.builtins G.T.nolimit hg hwl (pl_encAll _ _) (layable_weight hlay) hr hF hb (by rw [encAll_len]; exact hlen)
    (fun H xs hO hS => hsp K H xs a hO hwi e2 hS) fun H e s' => hCX H s₁ e s') fun r' s' hq => ?_)
  obtain ⟨u, as', rfl, h1, h2, h3, h4⟩ := hq
  exact ⟨.inl ⟨u, _, as', rfl, fun _ => rfl, h1, (PySem.W.OpenSpec.post_iff hwell hwi _ _).mpr rfl, fun z => Bool.noConfusion (show false = true from z)⟩, h2, h3, h4⟩
end Hc

/-! ### C. coats' bytes read: what stands in the heap, the promises -/
namespace Hc
open PySem PySem.Spec PyProof.Rows L2
def bv (b : UInt8) : V := .int (b.toNat : Int)
def srcF (c : Addr) (k : Nat) : List (Str × V) := [("some", .ref c), ("at", .int k)]
/-- a reader of the class at C stands at s: the bytes bs, read up to k -/
structure Src (K : PySem.W.Frag) (C : Addr) (H : Hp) (s dx c : Addr) (bs : B) (k : Nat) : Prop where
  ob : H s = some (.ins C dx (srcF c k))
  sq : SqL K H c (bs.map bv)
  le : k ≤ bs.length
  big : bs.length ≤ 5000
theorem Src.bt {K : PySem.W.Frag} {C : Addr} {H H' : Hp} {s dx c : Addr} {bs : B} {k k' : Nat} (S : Src K C H s dx c bs k) (e : Bt s H H') (ob : H' s = some (.ins C dx (srcF c k'))) (le : k' ≤ bs.length) : Src K C H' s dx c bs k' :=
  ⟨ob, e.seq S.ob S.sq, le, S.big⟩
/-- a reader's def: the error told, or the value that stands for what was read, new in the heap -/
structure RdP {α : Type} (K : PySem.W.Frag) (C N : Addr) (rd : Nat → B → Except Nat (α × Nat × B)) (Is : Hp → V → α → Prop) (H : Hp) (s dx c : Addr) (bs : B) (k : Nat) (Q : VK) (E : XK) : Prop where
  err : ∀ e, rd k (bs.drop k) = .error e → ∀ (d : Addr) H', Bt s H H' → H' d = some (.xd [("place", .int (e : Nat))]) → E (.ref N) (some d) H'
  ok : ∀ a p', rd k (bs.drop k) = .ok (a, p', bs.drop p') → ∀ v H', Bt s H H' → Src K C H' s dx c bs p' → Is (Dn H H') v a → Q v H'
/-- its arguments: the reader, then those of ws i; pre i: what else stands in the heap -/
def spRd {ι α : Type} (K : PySem.W.Frag) (ws : ι → List V) (pre : ι → Hp → Prop) (rd : ι → Nat → B → Except Nat (α × Nat × B)) (Is : Hp → V → α → Prop) : Sp := fun vs H Q E => ∃ (i : ι) (s dx c : Addr) (bs : B) (k : Nat), vs = .ref s :: ws i ∧ pre i H ∧ Src K (He.ga K "Bytes") H s dx c bs k ∧
  RdP K (He.ga K "Bytes") (He.ga K "NoCoat") (rd i) Is H s dx c bs k Q E
def IsInt : Hp → V → Nat → Prop := fun _ v n => v = .int (n : Int)
/-- read_byte -/
abbrev spByte (K : PySem.W.Frag) : Sp := spRd (ι := Nat × Nat) K (fun i => [.int (i.1 : Int), .int (i.2 : Int)]) (fun _ _ => True) (fun i => Sh.numAt i.1 i.2 Sh.ANY) IsInt
/-- the promise of an own error's __init__(self, place) -/
def spErr1 (K : PySem.W.Frag) (x : Str) : Sp := fun vs H Q _ => ∃ (a : Addr) (v : V), vs = [.ref a, v] ∧ H a = some (exo a (He.ga K x) none) ∧
  ∀ dx, H dx = none → dx ≠ a → Q .non (upd (upd H dx (exd dx [("place", v)])) a (exo a (He.ga K x) (some dx)))
theorem raise1 {K : PySem.W.Frag} {x : Str} {H1 : Hp} {v : V} {W : XK} (k : ∀ (d : Addr) H', Same H1 H' → H1 d = none → H' d = some (.xd [("place", v)]) → W (.ref (He.ga K x)) (some d) H') :
    (fun (vs : List V) (H1 : Hp) => vs.length ≤ 1000 ∧ ∀ a, H1 a = none → spErr1 K x (.ref a :: (vs ++ [])) (upd H1 a (exo a (He.ga K x) none))
      (fun v H2 => v = .non ∧ ∃ (d : Addr) (fs : List (Str × V)), H2 a = some (exo a (He.ga K x) (some d)) ∧ H2 d = some (exd d fs) ∧ H1 d = none ∧ W (.ref (He.ga K x)) (some d) (upd (del H2 a) d (.xd fs))) (fun _ _ _ => False)) [v] H1 := by
  refine ⟨by show 1 ≤ 1000; decide, fun a ha => ⟨a, v, rfl, upd_same, fun dx hd ne => ⟨rfl, dx, [("place", v)], upd_same, ?_, ?_, ?_⟩⟩⟩
  · rw [upd_ne ne, upd_same]
  · rw [upd_ne ne] at hd
    exact hd
  · have hd1 : H1 dx = none := by
      rw [upd_ne ne] at hd
      exact hd
    refine k dx _ (fun b o q => ?_) hd1 upd_same
    have nb : b ≠ dx := ne_of_none q hd1
    have na : b ≠ a := ne_of_none q ha
    rw [upd_ne nb, del_ne na, upd_ne na, upd_ne nb, upd_ne na]
    exact q
theorem atI_nat {α : Type} {xs : List α} {j : Nat} {x : α} (h : xs[j]? = some x) : atI xs (j : Int) = some x := by
  unfold atI ixN
  have hj : j < xs.length := (List.getElem?_eq_some_iff.mp h).1
  rw [if_pos (by omega), if_pos (by omega)]
  simpa using h
theorem iteB {c : Bool} {A B : Prop} (h1 : c = true → A) (h2 : c = false → B) : if c = true then A else B := by
  cases c with
  | true => exact h1 rfl
  | false => exact h2 rfl
end Hc
namespace Hc
open PySem PySem.Spec PyProof.Rows L2
theorem srcF_put {c : Addr} {k j : Nat} : putF "at" (.int ((k : Int) + (j : Int))) (srcF c k) = srcF c (k + j) := by
  have e : ((k : Int) + (j : Int)) = ((k + j : Nat) : Int) := by omega
  rw [e] <;> rfl
theorem num_ok {lo hi x p : Nat} {b : UInt8} {r : B} (h1 : lo ≤ b.toNat) (h2 : b.toNat ≤ hi) (h3 : b.toNat ≠ x) : Sh.numAt lo hi x p (b :: r) = .ok (b.toNat, p + 1, r) := by
  show (if b.toNat < lo ∨ hi < b.toNat ∨ b.toNat = x then _ else _) = _
  rw [if_neg (by omega)]
theorem num_no {lo hi x p : Nat} {b : UInt8} {r : B} (h : b.toNat < lo ∨ hi < b.toNat ∨ b.toNat = x) : Sh.numAt lo hi x p (b :: r) = .error p := by
  show (if b.toNat < lo ∨ hi < b.toNat ∨ b.toNat = x then _ else _) = _
  rw [if_pos h]
end Hc
namespace Hc
open PySem PySem.Spec PyProof.Rows L2
theorem Src.put {K : PySem.W.Frag} {C : Addr} {H : Hp} {s dx c : Addr} {bs : B} {k j : Nat} {fs : List (Str × V)} (S : Src K C H s dx c bs k) (e : fs = srcF c j) (le : j ≤ bs.length) : Src K C (upd H s (.ins C dx fs)) s dx c bs j :=
  S.bt Bt.refl.put (by rw [e]; exact upd_same) le
end Hc
namespace Hc
open PySem PySem.Spec PyProof.Rows L2
/-! #### what a byte's reading says -/
theorem num_is {lo hi x p : Nat} {b : B} {n p' : Nat} {r : B} (h : Sh.numAt lo hi x p b = .ok (n, p', r)) : p' = p + 1 ∧ lo ≤ n ∧ n ≤ hi ∧ n ≠ x ∧ n < 256 := by
  cases b with
  | nil => cases h
  | cons c t =>
    by_cases q : c.toNat < lo ∨ hi < c.toNat ∨ c.toNat = x
    · rw [num_no q] at h
      cases h
    · rw [num_ok (by omega) (by omega) (by omega)] at h
      cases h
      have := c.toNat_lt
      exact ⟨rfl, by omega, by omega, by omega, by omega⟩
theorem num_err {lo hi x p : Nat} {b : B} {e : Nat} (h : Sh.numAt lo hi x p b = .error e) : e = p := by
  cases b with
  | nil =>
    cases h
    rfl
  | cons c t =>
    by_cases q : c.toNat < lo ∨ hi < c.toNat ∨ c.toNat = x
    · rw [num_no q] at h
      cases h
      rfl
    · rw [num_ok (by omega) (by omega) (by omega)] at h
      cases h
/-- the same, one number left out -/
theorem num_but {lo hi x p : Nat} {b : B} {n p' : Nat} {r : B} (h : Sh.numAt lo hi Sh.ANY p b = .ok (n, p', r)) : Sh.numAt lo hi x p b = if n = x then .error p else .ok (n, p', r) := by
  cases b with
  | nil => cases h
  | cons c t =>
    by_cases q : c.toNat < lo ∨ hi < c.toNat ∨ c.toNat = Sh.ANY
    · rw [num_no q] at h
      cases h
    · rw [num_ok (by omega) (by omega) (by omega)] at h
      cases h
      by_cases q2 : c.toNat = x
      · rw [if_pos q2, num_no (.inr (.inr q2))]
      · rw [if_neg q2, num_ok (by omega) (by omega) q2]
theorem num_but_err {lo hi x p : Nat} {b : B} {e : Nat} (h : Sh.numAt lo hi Sh.ANY p b = .error e) (hi255 : hi < 256) : Sh.numAt lo hi x p b = .error e := by
  have ep := num_err h
  subst ep
  cases b with
  | nil => exact h
  | cons c t =>
    by_cases q : c.toNat < lo ∨ hi < c.toNat ∨ c.toNat = x
    · exact num_no q
    · have := c.toNat_lt
      rw [num_ok (by omega) (by omega) (by unfold Sh.ANY; omega)] at h
      cases h
/-! #### what stands for a field, a layer, arms, a coat -/
open Sh ShMarsh
def iv (n : Nat) : V := .int (n : Int)
def fieldV : Field → List V
  | .plain t => [iv 0, iv t]
  | .parted d l a b => [iv 1, iv d, iv l, iv a, iv b]
  | .varied v n l a b => [iv 2, iv v, iv n, iv l, iv a, iv b]
def IsTwo : Hp → V → Nat × Nat → Prop := fun D v x => ∃ p, v = .ref p ∧ D p = some (.tup [iv x.1, iv x.2])
def IsField : Hp → V → Field → Prop := fun D v f => ∃ p, v = .ref p ∧ D p = some (.tup (fieldV f))
def IsFill : Hp → V → Fill → Prop
  | D, v, .solid f => IsField D v f
  | _, v, .counter => v = .non
def layF (k : Nat) (n : Addr) (fv : V) : List (Str × V) := [("kind", iv k), ("numbers", .ref n), ("fill", fv)]
def layK : Layer → Nat
  | .ord _ _ _ => 0
  | .group _ _ _ _ _ => 1
def layN : Layer → List V
  | .ord o l _ => [iv o, iv l]
  | .group c n m s _ => [iv c, iv n, iv m, iv s]
def IsLayer (K : PySem.W.Frag) : Hp → V → Layer → Prop := fun D v l => ∃ (a dx n : Addr) (fv : V), v = .ref a ∧ D a = some (.ins (He.ga K "Layer") dx (layF (layK l) n fv)) ∧ D n = some (.lst (layN l)) ∧ IsFill D fv l.fill
def armF (fv : V) (l : Addr) : List (Str × V) := [("field", fv), ("layers", .ref l)]
def IsArms (K : PySem.W.Frag) : Hp → V → Arms → Prop := fun D v a => ∃ (x dx l : Addr) (fv : V) (vs : List V), v = .ref x ∧ D x = some (.ins (He.ga K "Arms") dx (armF fv l)) ∧ IsField D fv a.field ∧ D l = some (.lst vs) ∧ Paired (IsLayer K D) vs a.layers
def IsMark : Hp → V → Nat × Nat → Prop := IsTwo
def IsCant (K : PySem.W.Frag) : Hp → V → Option Arms → Prop
  | D, v, some a => IsArms K D v a
  | _, v, none => v = .non
def coaF (k : Nat) (av cv : V) (ml cl : Addr) : List (Str × V) := [("kind", iv k), ("arms", av), ("canton", cv), ("marks", .ref ml), ("coats", .ref cl)]
def IsMarked (K : PySem.W.Frag) : Hp → V → Marked → Prop := fun D v m => ∃ (x dx ml cl : Addr) (av cv : V) (ms : List V), v = .ref x ∧ D x = some (.ins (He.ga K "Coat") dx (coaF 0 av cv ml cl)) ∧ IsArms K D av m.arms ∧ IsCant K D cv m.canton ∧ D ml = some (.lst ms) ∧ Paired (IsMark D) ms m.marks ∧ D cl = some (.lst [])
mutual
def IsCoat (K : PySem.W.Frag) (D : Hp) : V → Coat → Prop
  | v, .one m => IsMarked K D v m
  | v, .quarters l => ∃ (x dx ml cl : Addr) (vs : List V), v = .ref x ∧ D x = some (.ins (He.ga K "Coat") dx (coaF 1 .non .non ml cl)) ∧ D ml = some (.lst []) ∧ D cl = some (.lst vs) ∧ IsCoats K D vs l
  | v, .impaled a b => ∃ (x dx ml cl : Addr) (va vb : V), v = .ref x ∧ D x = some (.ins (He.ga K "Coat") dx (coaF 2 .non .non ml cl)) ∧ D ml = some (.lst []) ∧ D cl = some (.lst [va, vb]) ∧ IsCoat K D va a ∧ IsCoat K D vb b
  | v, .pretence a b => ∃ (x dx ml cl : Addr) (va vb : V), v = .ref x ∧ D x = some (.ins (He.ga K "Coat") dx (coaF 3 .non .non ml cl)) ∧ D ml = some (.lst []) ∧ D cl = some (.lst [va, vb]) ∧ IsCoat K D va a ∧ IsCoat K D vb b
def IsCoats (K : PySem.W.Frag) (D : Hp) : List V → List Coat → Prop
  | [], [] => True
  | v :: vs, c :: cs => IsCoat K D v c ∧ IsCoats K D vs cs
  | _, _ => False
end
theorem Paired.up {α : Type} {F G : V → α → Prop} {xs : List V} {ys : List α} (h : Paired F xs ys) (m : ∀ v a, F v a → G v a) : Paired G xs ys := L2.Paired.mapP h m
theorem Paired.snoc {α : Type} {F : V → α → Prop} : ∀ {xs : List V} {ys : List α} {x : V} {y : α}, Paired F xs ys → F x y → Paired F (xs ++ [x]) (ys ++ [y])
  | _, _, _, _, .nil, h => .cons h .nil
  | _, _, _, _, .cons r t, h => .cons r (Paired.snoc t h)
section
variable {K : PySem.W.Frag} {D D' : Hp} (e : Same D D')
include e
theorem IsTwo.up {v : V} {x : Nat × Nat} (h : IsTwo D v x) : IsTwo D' v x := let ⟨p, h1, h2⟩ := h; ⟨p, h1, e _ _ h2⟩
theorem IsField.up {v : V} {x : Field} (h : IsField D v x) : IsField D' v x := let ⟨p, h1, h2⟩ := h; ⟨p, h1, e _ _ h2⟩
theorem IsFill.up {v : V} : ∀ {x : Fill}, IsFill D v x → IsFill D' v x
  | .solid _, h => IsField.up e h
  | .counter, h => h
theorem IsLayer.up {v : V} {x : Layer} (h : IsLayer K D v x) : IsLayer K D' v x := let ⟨a, dx, n, fv, h1, h2, h3, h4⟩ := h; ⟨a, dx, n, fv, h1, e _ _ h2, e _ _ h3, h4.up e⟩
theorem IsArms.up {v : V} {x : Arms} (h : IsArms K D v x) : IsArms K D' v x := let ⟨a, dx, l, fv, vs, h1, h2, h3, h4, h5⟩ := h; ⟨a, dx, l, fv, vs, h1, e _ _ h2, h3.up e, e _ _ h4, Paired.up h5 fun _ _ z => IsLayer.up e z⟩
theorem IsCant.up {v : V} : ∀ {x : Option Arms}, IsCant K D v x → IsCant K D' v x
  | some _, h => IsArms.up e h
  | none, h => h
theorem IsMarked.up {v : V} {x : Marked} (h : IsMarked K D v x) : IsMarked K D' v x :=
  let ⟨x, dx, ml, cl, av, cv, ms, h1, h2, h3, h4, h5, h6, h7⟩ := h
  ⟨x, dx, ml, cl, av, cv, ms, h1, e _ _ h2, h3.up e, h4.up e, e _ _ h5, Paired.up h6 fun _ _ z => IsTwo.up e z, e _ _ h7⟩
mutual
theorem IsCoat.up : ∀ {v : V} {x : Coat}, IsCoat K D v x → IsCoat K D' v x
  | _, .one _, h => IsMarked.up e (by unfold IsCoat at h; exact h) |> fun z => by unfold IsCoat; exact z
  | _, .quarters _, h => by
    unfold IsCoat at h ⊢
    obtain ⟨x, dx, ml, cl, vs, h1, h2, h3, h4, h5⟩ := h
    exact ⟨x, dx, ml, cl, vs, h1, e _ _ h2, e _ _ h3, e _ _ h4, IsCoats.up h5⟩
  | _, .impaled _ _, h => by
    unfold IsCoat at h ⊢
    obtain ⟨x, dx, ml, cl, va, vb, h1, h2, h3, h4, h5, h6⟩ := h
    exact ⟨x, dx, ml, cl, va, vb, h1, e _ _ h2, e _ _ h3, e _ _ h4, IsCoat.up h5, IsCoat.up h6⟩
  | _, .pretence _ _, h => by
    unfold IsCoat at h ⊢
    obtain ⟨x, dx, ml, cl, va, vb, h1, h2, h3, h4, h5, h6⟩ := h
    exact ⟨x, dx, ml, cl, va, vb, h1, e _ _ h2, e _ _ h3, e _ _ h4, IsCoat.up h5, IsCoat.up h6⟩
theorem IsCoats.up : ∀ {vs : List V} {xs : List Coat}, IsCoats K D vs xs → IsCoats K D' vs xs
  | [], [], _ => by unfold IsCoats; trivial
  | _ :: _, _ :: _, h => by
    unfold IsCoats at h ⊢
    exact ⟨IsCoat.up h.1, IsCoats.up h.2⟩
  | [], _ :: _, h => by unfold IsCoats at h; exact h.elim
  | _ :: _, [], h => by unfold IsCoats at h; exact h.elim
end
end
end Hc

namespace Hc
open PySem PySem.Spec PyProof.Rows L2
open Sh ShMarsh
/-! #### the promises of the __init__s, and what a maker of an object gets -/
/-- behind the making and an __init__ that changes the new object alone -/
theorem Same.made2 {H H' : Hp} {x dx : Addr} {o u : HO} (nx : H x = none) (nd : H dx = none) (e : Bt x (upd (upd H dx o) x u) H') : Same H H' := fun b q h => by
  have n1 : b ≠ x := ne_of_none h nx
  have n2 : b ≠ dx := ne_of_none h nd
  exact e b q n1 (by rw [upd_ne n1, upd_ne n2]; exact h)
def spI_Bytes (K : PySem.W.Frag) (C : Str) : Sp := fun vs H Q _ => ∃ (x dx c : Addr), vs = [.ref x, .ref c] ∧ H x = some (.ins (He.ga K C) dx []) ∧ ∀ H', Bt x H H' → H' x = some (.ins (He.ga K C) dx (srcF c 0)) → Q .non H'
def spI_Layer (K : PySem.W.Frag) : Sp := fun vs H Q _ => ∃ (x dx : Addr) (a b c : V), vs = [.ref x, a, b, c] ∧ H x = some (.ins (He.ga K "Layer") dx []) ∧ ∀ H', Bt x H H' → H' x = some (.ins (He.ga K "Layer") dx [("kind", a), ("numbers", b), ("fill", c)]) → Q .non H'
def spI_Arms (K : PySem.W.Frag) : Sp := fun vs H Q _ => ∃ (x dx : Addr) (f : V), vs = [.ref x, f] ∧ H x = some (.ins (He.ga K "Arms") dx []) ∧
  ∀ H' l, Bt x H H' → H l = none → H' x = some (.ins (He.ga K "Arms") dx (armF f l)) → H' l = some (.lst []) → Q .non H'
def spI_Coat (K : PySem.W.Frag) : Sp := fun vs H Q _ => ∃ (x dx : Addr) (k : Nat), vs = [.ref x, iv k] ∧ H x = some (.ins (He.ga K "Coat") dx []) ∧
  ∀ H' ml cl, Bt x H H' → H ml = none → H cl = none → ml ≠ cl → H' x = some (.ins (He.ga K "Coat") dx (coaF k .non .non ml cl)) → H' ml = some (.lst []) → H' cl = some (.lst []) → Q .non H'
section
variable {K : PySem.W.Frag} {H1 : Hp} {Q : Addr → Hp → Prop} {E : XK}
theorem mk_Bytes {C : Str} {c : Addr} (k : ∀ x dx H', H1 x = none → Same H1 H' → H' x = some (.ins (He.ga K C) dx (srcF c 0)) → Q x H') :
    ∀ x dx, H1 x = none → H1 dx = none → dx ≠ x → spI_Bytes K C (.ref x :: ([.ref c] ++ [])) (upd (upd H1 dx (.own x)) x (.ins (He.ga K C) dx [])) (fun v H2 => v = .non ∧ Q x H2) E :=
  fun x dx nx nd ne => ⟨x, dx, c, rfl, upd_same, fun H' e h => ⟨rfl, k x dx H' nx (Same.made2 nx nd e) h⟩⟩
theorem mk_Layer {a b c : V} (k : ∀ x dx H', H1 x = none → Same H1 H' → H' x = some (.ins (He.ga K "Layer") dx [("kind", a), ("numbers", b), ("fill", c)]) → Q x H') :
    ∀ x dx, H1 x = none → H1 dx = none → dx ≠ x → spI_Layer K (.ref x :: ([a, b, c] ++ [])) (upd (upd H1 dx (.own x)) x (.ins (He.ga K "Layer") dx [])) (fun v H2 => v = .non ∧ Q x H2) E :=
  fun x dx nx nd ne => ⟨x, dx, a, b, c, rfl, upd_same, fun H' e h => ⟨rfl, k x dx H' nx (Same.made2 nx nd e) h⟩⟩
theorem two_none {H : Hp} {x dx l : Addr} {o u : HO} (h : upd (upd H dx o) x u l = none) : H l = none ∧ l ≠ x ∧ l ≠ dx := by
  have n1 : l ≠ x := fun z => by
    rw [z, upd_same] at h
    cases h
  rw [upd_ne n1] at h
  have n2 : l ≠ dx := fun z => by
    rw [z, upd_same] at h
    cases h
  rw [upd_ne n2] at h
  exact ⟨h, n1, n2⟩
theorem mk_Arms {f : V} (k : ∀ x dx l H', H1 x = none → H1 l = none → Same H1 H' → H' x = some (.ins (He.ga K "Arms") dx (armF f l)) → H' l = some (.lst []) → Q x H') :
    ∀ x dx, H1 x = none → H1 dx = none → dx ≠ x → spI_Arms K (.ref x :: ([f] ++ [])) (upd (upd H1 dx (.own x)) x (.ins (He.ga K "Arms") dx [])) (fun v H2 => v = .non ∧ Q x H2) E :=
  fun x dx nx nd ne => ⟨x, dx, f, rfl, upd_same, fun H' l e nl h hl => ⟨rfl, k x dx l H' nx (two_none nl).1 (Same.made2 nx nd e) h hl⟩⟩
theorem mk_Coat {n : Nat} (k : ∀ x dx ml cl H', H1 x = none → H1 ml = none → H1 cl = none → ml ≠ cl → Same H1 H' → H' x = some (.ins (He.ga K "Coat") dx (coaF n .non .non ml cl)) → H' ml = some (.lst []) → H' cl = some (.lst []) → Q x H') :
    ∀ x dx, H1 x = none → H1 dx = none → dx ≠ x → spI_Coat K (.ref x :: ([iv n] ++ [])) (upd (upd H1 dx (.own x)) x (.ins (He.ga K "Coat") dx [])) (fun v H2 => v = .non ∧ Q x H2) E :=
  fun x dx nx nd ne => ⟨x, dx, n, rfl, upd_same, fun H' ml cl e nm nc hne h hm hc => ⟨rfl, k x dx ml cl H' nx (two_none nm).1 (two_none nc).1 hne (Same.made2 nx nd e) h hm hc⟩⟩
end
/-- args of a reader's def with a field below: the arms at ar hold the field f -/
def armsPre (K : PySem.W.Frag) : Addr × Field → Hp → Prop := fun i H => ∃ (dx ff l : Addr), H i.1 = some (.ins (He.ga K "Arms") dx (armF (.ref ff) l)) ∧ H ff = some (.tup (fieldV i.2))
theorem armsPre.bt {K : PySem.W.Frag} {i : Addr × Field} {C s dx c : Addr} {k : Nat} {H H' : Hp} (h : armsPre K i H) (hs : H s = some (.ins C dx (srcF c k))) (e : Bt s H H') : armsPre K i H' := by
  obtain ⟨dx', ff, l, h1, h2⟩ := h
  refine ⟨dx', ff, l, e _ _ (ne_of h1 hs ?_) h1, e _ _ (ne_of h2 hs (by intro z; cases z)) h2⟩
  intro z
  have q : armF (.ref ff) l = srcF c k := by injection z
  have q1 : (("field" : Str), V.ref ff) = (("some" : Str), V.ref c) := (List.cons.inj q).1
  exact absurd (show ("field" : Str) = "some" from congrArg Prod.fst q1) (by decide +kernel)
abbrev spTwo (K : PySem.W.Frag) : Sp := spRd (ι := Unit) K (fun _ => []) (fun _ _ => True) (fun _ => Sh.twoAt) IsTwo
abbrev spField (K : PySem.W.Frag) : Sp := spRd (ι := Unit) K (fun _ => []) (fun _ _ => True) (fun _ => Sh.fieldAt) IsField
abbrev spFill (K : PySem.W.Frag) : Sp := spRd (ι := Addr × Field) K (fun i => [.ref i.1]) (armsPre K) (fun i => Sh.fillAt i.2) IsFill
abbrev spLayer (K : PySem.W.Frag) : Sp := spRd (ι := Addr × Field) K (fun i => [.ref i.1]) (armsPre K) (fun i => Sh.layerAt i.2) (IsLayer K)
abbrev spArms (K : PySem.W.Frag) : Sp := spRd (ι := Unit) K (fun _ => []) (fun _ _ => True) (fun _ => armsFrom) (IsArms K)
abbrev spMarked (K : PySem.W.Frag) : Sp := spRd (ι := Unit) K (fun _ => []) (fun _ _ => True) (fun _ => markedFrom) (IsMarked K)
end Hc

namespace Hc
open PySem PySem.Spec PyProof.Rows L2
open Sh ShMarsh
/-- all but the objects at s and l is as it was -/
def Bt2 (s l : Addr) (H H' : Hp) : Prop := ∀ b o, b ≠ s → b ≠ l → H b = some o → H' b = some o
theorem Bt2.of {s l : Addr} {H H' : Hp} (e : Bt s H H') : Bt2 s l H H' := fun b o n _ h => e b o n h
theorem Bt2.trans {s l : Addr} {H H1 H2 : Hp} (a : Bt2 s l H H1) (b : Bt2 s l H1 H2) : Bt2 s l H H2 := fun c o n m h => b c o n m (a c o n m h)
theorem Bt2.put {s l : Addr} {H H' : Hp} {o : HO} (e : Bt2 s l H H') : Bt2 s l H (upd H' l o) := fun b u n m h => by
  rw [upd_ne m]
  exact e b u n m h
theorem Bt2.none {s l : Addr} {H H' : Hp} {so lo : HO} (e : Bt2 s l H H') (hs : H' s = some so) (hl : H' l = some lo) : ∀ a, H' a = Option.none → H a = Option.none := fun a h => by
  cases q : H a with
  | none => rfl
  | some o =>
    by_cases c : a = s
    · rw [c, hs] at h
      cases h
    · by_cases c2 : a = l
      · rw [c2, hl] at h
        cases h
      · rw [e a o c c2 q] at h
        cases h
/-- what is new since G stays where the objects at s and l, which G has, alone may change -/
theorem Bt2.dn {s l : Addr} {G H H' : Hp} {so lo : HO} (e : Bt2 s l H H') (hs : G s = some so) (hl : G l = some lo) : Same (Dn G H) (Dn G H') := dn_mono (fun _ h => h) fun a o n h =>
  e a o (fun z => by rw [z, hs] at n; cases n) (fun z => by rw [z, hl] at n; cases n) h
theorem Bt2.drop {s l : Addr} {G H H' : Hp} (a : Bt s G H) (nl : H l = Option.none) (e : Bt2 s l H H') : Bt s G H' := fun b o n h => e b o n (ne_of_none (a b o n h) nl) (a b o n h)
/-- all but the objects at M is as it was -/
def BtM (M : List Addr) (H H' : Hp) : Prop := ∀ b o, b ∉ M → H b = some o → H' b = some o
theorem BtM.of {M : List Addr} {s : Addr} {H H' : Hp} (e : Bt s H H') (hs : s ∈ M) : BtM M H H' := fun b o n h => e b o (fun z => n (z ▸ hs)) h
theorem BtM.same {M : List Addr} {H H' : Hp} (e : Same H H') : BtM M H H' := fun b o _ h => e b o h
theorem BtM.trans {M : List Addr} {H H1 H2 : Hp} (a : BtM M H H1) (b : BtM M H1 H2) : BtM M H H2 := fun c o n h => b c o n (a c o n h)
theorem BtM.put {M : List Addr} {l : Addr} {H H' : Hp} {o : HO} (e : BtM M H H') (hl : l ∈ M) : BtM M H (upd H' l o) := fun b u n h => by
  rw [upd_ne (fun z : b = l => n (by rw [z]; exact hl))]
  exact e b u n h
theorem BtM.new {M : List Addr} {H H' : Hp} {p : Addr} {o : HO} (e : BtM M H H') (hp : H' p = Option.none) : BtM M H (upd H' p o) := fun b u n h => by
  rw [upd_ne (ne_of_none (e b u n h) hp)]
  exact e b u n h
theorem BtM.none {M : List Addr} {H H' : Hp} (e : BtM M H H') (hM : ∀ m ∈ M, H' m ≠ Option.none) : ∀ a, H' a = Option.none → H a = Option.none := fun a h => by
  cases q : H a with
  | none => rfl
  | some o =>
    by_cases c : a ∈ M
    · exact absurd h (hM a c)
    · rw [e a o c q] at h
      cases h
theorem BtM.dn {M : List Addr} {G H H' : Hp} (e : BtM M H H') (hM : ∀ m ∈ M, G m ≠ Option.none) : Same (Dn G H) (Dn G H') := dn_mono (fun _ h => h) fun a o n h => e a o (fun z => hM a z n) h
theorem BtM.drop {M : List Addr} {s : Addr} {G H H' : Hp} (a : Bt s G H) (nl : ∀ m ∈ M, m = s ∨ H m = Option.none) (e : BtM M H H') : Bt s G H' := fun b o n h => e b o (fun z => by
  rcases nl b z with q | q
  · exact n q
  · exact ne_of_none (a b o n h) q rfl) (a b o n h)
/-- a list's reading, so far: the first ls are read, up to p; how it goes on -/
def goesOn {α : Type} (all rest : Except Nat (List α × Nat × B)) (ls : List α) : Prop := all = match rest with
  | .error e => .error e
  | .ok r => .ok (ls ++ r.1, r.2)
theorem goesOn.err {α : Type} {all rest : Except Nat (List α × Nat × B)} {ls : List α} {e : Nat} (h : goesOn all rest ls) (q : rest = .error e) : all = .error e := by
  unfold goesOn at h
  rw [h, q]
theorem goesOn.ok {α : Type} {all rest : Except Nat (List α × Nat × B)} {ls : List α} {p : Nat} {b : B} (h : goesOn all rest ls) (q : rest = .ok ([], p, b)) : all = .ok (ls, p, b) := by
  unfold goesOn at h
  rw [h, q]
  show Except.ok (ls ++ [], p, b) = _
  rw [List.append_nil]
theorem goesOn.start {α : Type} {all : Except Nat (List α × Nat × B)} : goesOn all all [] := by
  unfold goesOn
  cases all with
  | error e => rfl
  | ok r => rfl
theorem goesOn.turn {α : Type} {all rest rest' : Except Nat (List α × Nat × B)} {ls : List α} {x : α} (h : goesOn all rest ls) (q1 : ∀ e, rest' = .error e → rest = .error e) (q2 : ∀ r, rest' = .ok r → rest = .ok (x :: r.1, r.2)) : goesOn all rest' (ls ++ [x]) := by
  unfold goesOn at h ⊢
  cases e : rest' with
  | error e' => rw [h, q1 _ e]
  | ok r =>
    rw [h, q2 _ e]
    show Except.ok (ls ++ x :: r.1, r.2) = Except.ok (ls ++ [x] ++ r.1, r.2)
    rw [List.append_assoc]
    rfl
end Hc

/-! ### D. what is due, by bytes -/
namespace Hc
open PySem PySem.Spec PyProof.Rows L2
open Sh ShMarsh
def inB (ns : List Int) : Prop := ∀ n ∈ ns, 0 ≤ n ∧ n ≤ 255
def toB (ns : List Int) : B := ns.map fun n => UInt8.ofNat n.toNat
theorem toB_bv : ∀ {ns : List Int}, inB ns → ns.map V.int = (toB ns).map bv
  | [], _ => rfl
  | n :: ns, h => by
    have h1 := h n (List.mem_cons_self ..)
    have h2 : inB ns := fun m hm => h m (List.mem_cons_of_mem _ hm)
    show V.int n :: ns.map V.int = bv (UInt8.ofNat n.toNat) :: (toB ns).map bv
    rw [toB_bv h2]
    have e : ((UInt8.ofNat n.toNat).toNat : Int) = n := by
      rw [UInt8.toNat_ofNat']
      have : n.toNat % 2 ^ 8 = n.toNat := Nat.mod_eq_of_lt (by omega)
      rw [this]
      omega
    show _ = V.int ((UInt8.ofNat n.toNat).toNat : Int) :: _
    rw [e]
theorem toB_len {ns : List Int} : (toB ns).length = ns.length := by simp [toB]
theorem text_toB {ns : List Int} (h : inB ns) : CoatNeutral.text? ns = some (toB ns) := by
  unfold CoatNeutral.text?
  rw [if_pos]
  · rfl
  · unfold NeutralIO.bytes
    rw [List.all_eq_true]
    intro n hn
    have := h n hn
    simp [this.1, this.2]
theorem nat_int {n : Int} (h : 0 ≤ n) : CoatNeutral.nat? n = some n.toNat := if_pos h
/-- an answer as whole numbers -/
def told (a : ShCoats.Reply) : List Int := a.ret :: ((a.nums.map fun (n : Nat) => (n : Int)) ++ a.bytes.map fun (b : UInt8) => (b.toNat : Int))
theorem due_check {ns : List Int} (h : inB ns) : PyWqaqbh.check ns = told (ShCoats.answer (.check (toB ns))) := by
  have e : CoatNeutral.callOf [[1], ns] = some (.check (toB ns)) := by
    show Option.map ShCoats.Call.check (CoatNeutral.text? ns) = _
    rw [text_toB h]
    rfl
  unfold PyWqaqbh.check CoatNeutral.f
  rw [e]
  rfl
theorem due_count {ns : List Int} (h : inB ns) : PyWqaqbh.count ns = told (ShCoats.answer (.count (toB ns))) := by
  have e : CoatNeutral.callOf [[4], ns] = some (.count (toB ns)) := by
    show Option.map ShCoats.Call.count (CoatNeutral.text? ns) = _
    rw [text_toB h]
    rfl
  unfold PyWqaqbh.count CoatNeutral.f
  rw [e]
  rfl
theorem due_words {ns : List Int} (h : inB ns) : PyWqaqbh.words ns = told (ShCoats.answer (.words (toB ns))) := by
  have e : CoatNeutral.callOf [[5], ns] = some (.words (toB ns)) := by
    show Option.map ShCoats.Call.words (CoatNeutral.text? ns) = _
    rw [text_toB h]
    rfl
  unfold PyWqaqbh.words CoatNeutral.f
  rw [e]
  rfl
theorem due_read {ns : List Int} (h : inB ns) : PyWqaqbh.read ns = told (ShCoats.answer (.read (toB ns))) := by
  have e : CoatNeutral.callOf [[6], ns] = some (.read (toB ns)) := by
    show Option.map ShCoats.Call.read (CoatNeutral.text? ns) = _
    rw [text_toB h]
    rfl
  unfold PyWqaqbh.read CoatNeutral.f
  rw [e]
  rfl
theorem due_at {p r : Int} {ns : List Int} (hp : 0 ≤ p) (hr : 0 ≤ r) (h : inB ns) : PyWqaqbh.at_ p r ns = told (ShCoats.answer (.at_ (toB ns) p.toNat r.toNat)) := by
  have e : CoatNeutral.callOf [[2, p, r], ns] = some (.at_ (toB ns) p.toNat r.toNat) := by
    show (match CoatNeutral.text? ns, CoatNeutral.nat? p, CoatNeutral.nat? r with
      | some x, some y, some z => some (ShCoats.Call.at_ x y z)
      | _, _, _ => none) = _
    rw [text_toB h, nat_int hp, nat_int hr]
  unfold PyWqaqbh.at_ CoatNeutral.f
  rw [e]
  rfl
theorem due_part {p r : Int} {ns : List Int} (hp : 0 ≤ p) (hr : 0 ≤ r) (h : inB ns) : PyWqaqbh.part p r ns = told (ShCoats.answer (.part (toB ns) p.toNat r.toNat)) := by
  have e : CoatNeutral.callOf [[3, p, r], ns] = some (.part (toB ns) p.toNat r.toNat) := by
    show (match CoatNeutral.text? ns, CoatNeutral.nat? p, CoatNeutral.nat? r with
      | some x, some y, some z => some (ShCoats.Call.part x y z)
      | _, _, _ => none) = _
    rw [text_toB h, nat_int hp, nat_int hr]
  unfold PyWqaqbh.part CoatNeutral.f
  rw [e]
  rfl
/-- what a call answers of a coat's bytes -/
theorem told_bad {bs : B} {f : Coat → ShCoats.Reply} {e : Nat} (h : readCoat bs = .error e) : told (ShCoats.ofCoat bs f) = [-1, (e : Int)] := by
  unfold ShCoats.ofCoat
  rw [h]
  rfl
theorem told_ok {bs : B} {f : Coat → ShCoats.Reply} {c : Coat} (h : readCoat bs = .ok c) : told (ShCoats.ofCoat bs f) = told (f c) := by
  unfold ShCoats.ofCoat
  rw [h]
/-- a call with one list of bytes -/
def spMain (K : PySem.W.Frag) (f : List Int → List Int) : Sp := fun vs H Q _ => ∃ (a : Addr) (ns : List Int), vs = [.ref a] ∧ inB ns ∧ ns.length ≤ 5000 ∧ SqL K H a (ns.map V.int) ∧
  ∀ p H', H' p = some (.lst ((f ns).map V.int)) → Q (.ref p) H'
/-- with a point ahead -/
def spMain3 (K : PySem.W.Frag) (f : Int → Int → List Int → List Int) : Sp := fun vs H Q _ => ∃ (p r : Nat) (a : Addr) (ns : List Int), vs = [.int (p : Int), .int (r : Int), .ref a] ∧ p < 4294967296 ∧ r < 4294967296 ∧ inB ns ∧ ns.length ≤ 5000 ∧ SqL K H a (ns.map V.int) ∧
  ∀ q H', H' q = some (.lst ((f (p : Int) (r : Int) ns).map V.int)) → Q (.ref q) H'
end Hc

/-! ### W. what is read is well made -/
namespace Hc
open Sh ShMarsh
def WfField : Field → Prop
  | .plain t => t ≤ 8
  | .parted d l a b => d ≤ 7 ∧ l ≤ 5 ∧ a ≤ 8 ∧ b ≤ 8 ∧ a ≠ b
  | .varied v n l a b => v ≤ 6 ∧ (2 ≤ n ∧ n ≤ 24) ∧ l ≤ 5 ∧ a ≤ 8 ∧ b ≤ 8 ∧ a ≠ b
def WfFill (below : Field) : Fill → Prop
  | .solid g => WfField g
  | .counter => below.two.isSome = true
def WfLayer (below : Field) : Layer → Prop
  | .ord o l f => o ≤ 12 ∧ l ≤ 5 ∧ WfFill below f
  | .group c n m s f => c ≤ 15 ∧ (1 ≤ n ∧ n ≤ 10) ∧ m ≤ 6 ∧ (1 ≤ s ∧ s ≤ 4) ∧ WfFill below f
def WfArms (a : Arms) : Prop := WfField a.field ∧ a.layers.length ≤ 8 ∧ ∀ l ∈ a.layers, WfLayer a.field l
def WfMarked (m : Marked) : Prop := WfArms m.arms ∧ (∀ a, m.canton = some a → WfArms a) ∧ m.marks.length ≤ 60 ∧ ∀ x ∈ m.marks, x.1 ≤ 127 ∧ 1 ≤ x.2 ∧ x.2 ≤ 255
mutual
def WfCoat : Coat → Prop
  | .one m => WfMarked m
  | .quarters l => 2 ≤ l.length ∧ l.length ≤ 9 ∧ WfCoats l
  | .impaled a b => WfCoat a ∧ WfCoat b
  | .pretence a b => WfCoat a ∧ WfCoat b
def WfCoats : List Coat → Prop
  | [] => True
  | c :: l => WfCoat c ∧ WfCoats l
end
theorem wf_two {p : Nat} {b : Bytes} {x : Nat × Nat} {r : Nat × Bytes} (h : Sh.twoAt p b = .ok (x, r)) : x.1 ≤ 8 ∧ x.2 ≤ 8 ∧ x.1 ≠ x.2 := by
  unfold Sh.twoAt at h
  cases h1 : numAt 0 8 ANY p b with
  | error e => rw [h1] at h; cases h
  | ok k =>
    obtain ⟨n, p1, b1⟩ := k
    rw [h1] at h
    simp only at h
    cases h2 : numAt 0 8 n p1 b1 with
    | error e => rw [h2] at h; cases h
    | ok k2 =>
      obtain ⟨m, p2, b2⟩ := k2
      rw [h2] at h
      cases h
      have i1 := num_is h1
      have i2 := num_is h2
      exact ⟨i1.2.2.1, i2.2.2.1, fun z => i2.2.2.2.1 z.symm⟩
theorem wf_field {p : Nat} {b : Bytes} {f : Field} {r : Nat × Bytes} (h : Sh.fieldAt p b = .ok (f, r)) : WfField f := by
  unfold Sh.fieldAt at h
  cases h1 : numAt 0 2 ANY p b with
  | error e => rw [h1] at h; cases h
  | ok k =>
    obtain ⟨n, p1, b1⟩ := k
    rw [h1] at h
    simp only at h
    by_cases c0 : n = 0
    · rw [if_pos c0] at h
      cases h2 : numAt 0 8 ANY p1 b1 with
      | error e => rw [h2] at h; cases h
      | ok k2 =>
        rw [h2] at h
        cases h
        exact (num_is (n := k2.1) (p' := k2.2.1) (r := k2.2.2) h2).2.2.1
    · rw [if_neg c0] at h
      by_cases c1 : n = 1
      · rw [if_pos c1] at h
        cases h2 : numAt 0 7 ANY p1 b1 with
        | error e => rw [h2] at h; cases h
        | ok k2 =>
          rw [h2] at h
          simp only at h
          cases h3 : numAt 0 5 ANY k2.2.1 k2.2.2 with
          | error e => rw [h3] at h; cases h
          | ok k3 =>
            rw [h3] at h
            simp only at h
            cases h4 : Sh.twoAt k3.2.1 k3.2.2 with
            | error e => rw [h4] at h; cases h
            | ok t =>
              rw [h4] at h
              cases h
              have w := wf_two (x := t.1) (r := t.2) h4
              exact ⟨(num_is (n := k2.1) (p' := k2.2.1) (r := k2.2.2) h2).2.2.1, (num_is (n := k3.1) (p' := k3.2.1) (r := k3.2.2) h3).2.2.1, w.1, w.2.1, w.2.2⟩
      · rw [if_neg c1] at h
        cases h2 : numAt 0 6 ANY p1 b1 with
        | error e => rw [h2] at h; cases h
        | ok k2 =>
          rw [h2] at h
          simp only at h
          cases h3 : numAt 2 24 ANY k2.2.1 k2.2.2 with
          | error e => rw [h3] at h; cases h
          | ok k3 =>
            rw [h3] at h
            simp only at h
            cases h5 : numAt 0 (if 5 ≤ k2.1 then 0 else 5) ANY k3.2.1 k3.2.2 with
            | error e => rw [h5] at h; cases h
            | ok k5 =>
              rw [h5] at h
              simp only at h
              cases h4 : Sh.twoAt k5.2.1 k5.2.2 with
              | error e => rw [h4] at h; cases h
              | ok t =>
                rw [h4] at h
                cases h
                have w := wf_two (x := t.1) (r := t.2) h4
                have i3 := num_is (n := k3.1) (p' := k3.2.1) (r := k3.2.2) h3
                have i5 := (num_is (n := k5.1) (p' := k5.2.1) (r := k5.2.2) h5).2.2.1
                refine ⟨(num_is (n := k2.1) (p' := k2.2.1) (r := k2.2.2) h2).2.2.1, ⟨i3.2.1, i3.2.2.1⟩, ?_, w.1, w.2.1, w.2.2⟩
                split at i5 <;> omega
theorem wf_fill {below : Field} {p : Nat} {b : Bytes} {f : Fill} {r : Nat × Bytes} (h : Sh.fillAt below p b = .ok (f, r)) : WfFill below f := by
  unfold Sh.fillAt at h
  cases h1 : numAt 0 (if below.two.isSome = true then 1 else 0) ANY p b with
  | error e => rw [h1] at h; cases h
  | ok k =>
    rw [h1] at h
    simp only at h
    by_cases c : k.1 = 1
    · rw [if_pos c] at h
      cases h
      have i := (num_is (n := k.1) (p' := k.2.1) (r := k.2.2) h1).2.2.1
      show below.two.isSome = true
      cases q : below.two.isSome with
      | true => rfl
      | false =>
        rw [q] at i
        simp at i
        omega
    · rw [if_neg c] at h
      cases h2 : Sh.fieldAt k.2.1 k.2.2 with
      | error e => rw [h2] at h; cases h
      | ok g =>
        rw [h2] at h
        cases h
        exact wf_field (f := g.1) (r := g.2) h2
theorem wf_layer {below : Field} {p : Nat} {b : Bytes} {l : Layer} {r : Nat × Bytes} (h : Sh.layerAt below p b = .ok (l, r)) : WfLayer below l := by
  unfold Sh.layerAt at h
  cases h1 : numAt 0 1 ANY p b with
  | error e => rw [h1] at h; cases h
  | ok k =>
    rw [h1] at h
    simp only at h
    by_cases c : k.1 = 0
    · rw [if_pos c] at h
      cases h2 : numAt 0 12 ANY k.2.1 k.2.2 with
      | error e => rw [h2] at h; cases h
      | ok o =>
        rw [h2] at h
        simp only at h
        cases h3 : numAt 0 5 ANY o.2.1 o.2.2 with
        | error e => rw [h3] at h; cases h
        | ok q =>
          rw [h3] at h
          simp only at h
          cases h4 : Sh.fillAt below q.2.1 q.2.2 with
          | error e => rw [h4] at h; cases h
          | ok f =>
            rw [h4] at h
            cases h
            exact ⟨(num_is (n := o.1) (p' := o.2.1) (r := o.2.2) h2).2.2.1, (num_is (n := q.1) (p' := q.2.1) (r := q.2.2) h3).2.2.1, wf_fill (f := f.1) (r := f.2) h4⟩
    · rw [if_neg c] at h
      cases h2 : numAt 0 15 ANY k.2.1 k.2.2 with
      | error e => rw [h2] at h; cases h
      | ok o =>
        rw [h2] at h
        simp only at h
        cases h3 : numAt 1 10 ANY o.2.1 o.2.2 with
        | error e => rw [h3] at h; cases h
        | ok q =>
          rw [h3] at h
          simp only at h
          cases h5 : numAt 0 6 ANY q.2.1 q.2.2 with
          | error e => rw [h5] at h; cases h
          | ok m =>
            rw [h5] at h
            simp only at h
            cases h6 : numAt 1 4 ANY m.2.1 m.2.2 with
            | error e => rw [h6] at h; cases h
            | ok s =>
              rw [h6] at h
              simp only at h
              cases h4 : Sh.fillAt below s.2.1 s.2.2 with
              | error e => rw [h4] at h; cases h
              | ok f =>
                rw [h4] at h
                cases h
                have i3 := num_is (n := q.1) (p' := q.2.1) (r := q.2.2) h3
                have i6 := num_is (n := s.1) (p' := s.2.1) (r := s.2.2) h6
                exact ⟨(num_is (n := o.1) (p' := o.2.1) (r := o.2.2) h2).2.2.1, ⟨i3.2.1, i3.2.2.1⟩, (num_is (n := m.1) (p' := m.2.1) (r := m.2.2) h5).2.2.1, ⟨i6.2.1, i6.2.2.1⟩, wf_fill (f := f.1) (r := f.2) h4⟩
theorem wf_layers {below : Field} : ∀ {n p : Nat} {b : Bytes} {l : List Layer} {r : Nat × Bytes}, Sh.layersFrom below n p b = .ok (l, r) → l.length = n ∧ ∀ x ∈ l, WfLayer below x
  | 0, p, b, l, r, h => by
    cases h
    exact ⟨rfl, fun x hx => by cases hx⟩
  | n + 1, p, b, l, r, h => by
    unfold Sh.layersFrom at h
    cases h1 : Sh.layerAt below p b with
    | error e => rw [h1] at h; cases h
    | ok k =>
      rw [h1] at h
      simp only at h
      cases h2 : Sh.layersFrom below n k.2.1 k.2.2 with
      | error e => rw [h2] at h; cases h
      | ok q =>
        rw [h2] at h
        cases h
        have ih := wf_layers (l := q.1) (r := q.2) h2
        refine ⟨by simp [ih.1], fun x hx => ?_⟩
        rcases List.mem_cons.mp hx with e | hx
        · rw [e]
          exact wf_layer (l := k.1) (r := k.2) h1
        · exact ih.2 x hx
theorem wf_arms {p : Nat} {b : Bytes} {a : Arms} {r : Nat × Bytes} (h : armsFrom p b = .ok (a, r)) : WfArms a := by
  unfold armsFrom at h
  cases h1 : Sh.fieldAt p b with
  | error e => rw [h1] at h; cases h
  | ok f =>
    rw [h1] at h
    simp only at h
    cases h2 : numAt 0 MOST ANY f.2.1 f.2.2 with
    | error e => rw [h2] at h; cases h
    | ok n =>
      rw [h2] at h
      simp only at h
      cases h3 : Sh.layersFrom f.1 n.1 n.2.1 n.2.2 with
      | error e => rw [h3] at h; cases h
      | ok l =>
        rw [h3] at h
        cases h
        have i := (num_is (n := n.1) (p' := n.2.1) (r := n.2.2) h2).2.2.1
        have w := wf_layers (l := l.1) (r := l.2) h3
        exact ⟨wf_field (f := f.1) (r := f.2) h1, by rw [w.1]; exact i, w.2⟩
theorem wf_marks : ∀ {n p : Nat} {b : Bytes} {l : List (Nat × Nat)} {r : Nat × Bytes}, marksFrom n p b = .ok (l, r) → l.length = n ∧ ∀ x ∈ l, x.1 ≤ 127 ∧ 1 ≤ x.2 ∧ x.2 ≤ 255
  | 0, p, b, l, r, h => by
    cases h
    exact ⟨rfl, fun x hx => by cases hx⟩
  | n + 1, p, b, l, r, h => by
    unfold marksFrom at h
    cases h1 : numAt 0 127 ANY p b with
    | error e => rw [h1] at h; cases h
    | ok g =>
      rw [h1] at h
      simp only at h
      cases h2 : numAt 1 255 ANY g.2.1 g.2.2 with
      | error e => rw [h2] at h; cases h
      | ok k =>
        rw [h2] at h
        simp only at h
        cases h3 : marksFrom n k.2.1 k.2.2 with
        | error e => rw [h3] at h; cases h
        | ok q =>
          rw [h3] at h
          cases h
          have ih := wf_marks (l := q.1) (r := q.2) h3
          refine ⟨by simp [ih.1], fun x hx => ?_⟩
          rcases List.mem_cons.mp hx with e | hx
          · rw [e]
            have i2 := num_is (n := k.1) (p' := k.2.1) (r := k.2.2) h2
            exact ⟨(num_is (n := g.1) (p' := g.2.1) (r := g.2.2) h1).2.2.1, i2.2.1, i2.2.2.1⟩
          · exact ih.2 x hx
theorem wf_marked {p : Nat} {b : Bytes} {m : Marked} {r : Nat × Bytes} (h : markedFrom p b = .ok (m, r)) : WfMarked m := by
  unfold markedFrom at h
  cases h1 : armsFrom p b with
  | error e => rw [h1] at h; cases h
  | ok a =>
    rw [h1] at h
    simp only at h
    cases h2 : numAt 0 1 ANY a.2.1 a.2.2 with
    | error e => rw [h2] at h; cases h
    | ok k =>
      rw [h2] at h
      simp only at h
      have key : ∀ (c : Option Arms) (q : Nat × Bytes), (∀ x, c = some x → WfArms x) → (match numAt 0 MARKS ANY q.1 q.2 with
          | .error e => Except.error e
          | .ok n => match marksFrom n.1 n.2.1 n.2.2 with
            | .error e => .error e
            | .ok m => .ok ((⟨a.1, c, m.1⟩ : Marked), m.2)) = .ok (m, r) → WfMarked m := by
        intro c q hc h
        cases h3 : numAt 0 MARKS ANY q.1 q.2 with
        | error e => rw [h3] at h; cases h
        | ok n =>
          rw [h3] at h
          simp only at h
          cases h4 : marksFrom n.1 n.2.1 n.2.2 with
          | error e => rw [h4] at h; cases h
          | ok ms =>
            rw [h4] at h
            cases h
            have i := (num_is (n := n.1) (p' := n.2.1) (r := n.2.2) h3).2.2.1
            have w := wf_marks (l := ms.1) (r := ms.2) h4
            exact ⟨wf_arms (a := a.1) (r := a.2) h1, hc, by rw [w.1]; exact i, w.2⟩
      by_cases c : k.1 = 0
      · rw [if_pos c] at h
        exact key none k.2 (fun x hx => by cases hx) h
      · rw [if_neg c] at h
        cases h5 : armsFrom k.2.1 k.2.2 with
        | error e => rw [h5] at h; cases h
        | ok a2 =>
          rw [h5] at h
          exact key (some a2.1) a2.2 (fun x hx => by cases hx; exact wf_arms (a := a2.1) (r := a2.2) h5) h
theorem wf_several {one : Nat → Bytes → Except Nat (Coat × Nat × Bytes)} {d : Nat} (ho : ∀ p b c r, one p b = .ok (c, r) → WfCoat c ∧ c.deep ≤ d) : ∀ {n p : Nat} {b : Bytes} {l : List Coat} {r : Nat × Bytes}, several one n p b = .ok (l, r) → l.length = n ∧ WfCoats l ∧ deepest l ≤ d
  | 0, p, b, l, r, h => by
    cases h
    exact ⟨rfl, by unfold WfCoats; trivial, by unfold deepest; omega⟩
  | n + 1, p, b, l, r, h => by
    unfold several at h
    cases h1 : one p b with
    | error e => rw [h1] at h; cases h
    | ok x =>
      rw [h1] at h
      simp only at h
      cases h2 : several one n x.2.1 x.2.2 with
      | error e => rw [h2] at h; cases h
      | ok q =>
        rw [h2] at h
        cases h
        have ih := wf_several ho (l := q.1) (r := q.2) h2
        have i := ho p b x.1 x.2 h1
        refine ⟨by simp [ih.1], ?_, ?_⟩
        · unfold WfCoats
          exact ⟨i.1, ih.2.1⟩
        · unfold deepest
          have := i.2
          have := ih.2.2
          omega
theorem wf_coatFrom : ∀ {d p : Nat} {b : Bytes} {c : Coat} {r : Nat × Bytes}, coatFrom d p b = .ok (c, r) → WfCoat c ∧ c.deep ≤ d
  | 0, p, b, c, r, h => by cases h
  | d + 1, p, b, c, r, h => by
    have ih : ∀ p b c r, coatFrom d p b = .ok (c, r) → WfCoat c ∧ c.deep ≤ d := fun p b c r h => wf_coatFrom h
    unfold coatFrom at h
    cases h1 : numAt 0 (if d = 0 then 0 else 3) ANY p b with
    | error e => rw [h1] at h; cases h
    | ok k =>
      rw [h1] at h
      simp only at h
      by_cases c0 : k.1 = 0
      · rw [if_pos c0] at h
        cases h2 : markedFrom k.2.1 k.2.2 with
        | error e => rw [h2] at h; cases h
        | ok m =>
          rw [h2] at h
          cases h
          refine ⟨?_, ?_⟩
          · unfold WfCoat
            exact wf_marked (m := m.1) (r := m.2) h2
          · unfold Coat.deep
            omega
      · rw [if_neg c0] at h
        by_cases c1 : k.1 = 1
        · rw [if_pos c1] at h
          cases h2 : numAt 2 QUARTERS ANY k.2.1 k.2.2 with
          | error e => rw [h2] at h; cases h
          | ok n =>
            rw [h2] at h
            simp only at h
            cases h3 : several (coatFrom d) n.1 n.2.1 n.2.2 with
            | error e => rw [h3] at h; cases h
            | ok l =>
              rw [h3] at h
              cases h
              have i := num_is (n := n.1) (p' := n.2.1) (r := n.2.2) h2
              have w := wf_several ih (l := l.1) (r := l.2) h3
              refine ⟨?_, ?_⟩
              · unfold WfCoat
                exact ⟨by rw [w.1]; exact i.2.1, by rw [w.1]; exact i.2.2.1, w.2.1⟩
              · unfold Coat.deep
                have := w.2.2
                omega
        · rw [if_neg c1] at h
          cases h2 : coatFrom d k.2.1 k.2.2 with
          | error e => rw [h2] at h; cases h
          | ok x =>
            rw [h2] at h
            simp only at h
            cases h3 : coatFrom d x.2.1 x.2.2 with
            | error e => rw [h3] at h; cases h
            | ok y =>
              rw [h3] at h
              have i1 := ih _ _ x.1 x.2 h2
              have i2 := ih _ _ y.1 y.2 h3
              have m1 := i1.2
              have m2 := i2.2
              by_cases c2 : k.1 = 2
              · simp only [if_pos c2] at h
                cases h
                refine ⟨?_, ?_⟩
                · unfold WfCoat
                  exact ⟨i1.1, i2.1⟩
                · unfold Coat.deep
                  omega
              · simp only [if_neg c2] at h
                cases h
                refine ⟨?_, ?_⟩
                · unfold WfCoat
                  exact ⟨i1.1, i2.1⟩
                · unfold Coat.deep
                  omega
theorem wf_read {b : Bytes} {c : Coat} (h : readCoat b = .ok c) : WfCoat c ∧ c.deep ≤ 4 := by
  unfold readCoat at h
  cases h1 : coatFrom DEEP 0 b with
  | error e => rw [h1] at h; cases h
  | ok x =>
    rw [h1] at h
    simp only at h
    by_cases e : x.2.2 = []
    · rw [if_pos e] at h
      cases h
      exact wf_coatFrom (c := x.1) (r := x.2) h1
    · rw [if_neg e] at h
      cases h
end Hc

/-! ### E. a coat as an object: its kind, its coats -/
namespace Hc
open PySem PySem.Spec PyProof.Rows L2
open Sh ShMarsh
def subs : Coat → List Coat
  | .one _ => []
  | .quarters l => l
  | .impaled a b => [a, b]
  | .pretence a b => [a, b]
def kindN : Coat → Nat
  | .one _ => 0
  | .quarters _ => 1
  | .impaled _ _ => 2
  | .pretence _ _ => 3
theorem kind_0 {c : Coat} (h : kindN c = 0) : ∃ m, c = .one m := by
  cases c with
  | one m => exact ⟨m, rfl⟩
  | quarters l => cases h
  | impaled a b => cases h
  | pretence a b => cases h
theorem coat_open {K : PySem.W.Frag} {D : Hp} {v : V} {c : Coat} (h : IsCoat K D v c) : ∃ (x dx ml cl : Addr) (av cv : V) (ms vs : List V), v = .ref x ∧ D x = some (.ins (He.ga K "Coat") dx (coaF (kindN c) av cv ml cl)) ∧ D ml = some (.lst ms) ∧ D cl = some (.lst vs) ∧ IsCoats K D vs (subs c) := by
  cases c with
  | one m =>
    unfold IsCoat at h
    obtain ⟨x, dx, ml, cl, av, cv, ms, h1, h2, h3, h4, h5, h6, h7⟩ := h
    exact ⟨x, dx, ml, cl, av, cv, ms, [], h1, h2, h5, h7, by unfold subs IsCoats; trivial⟩
  | quarters l =>
    unfold IsCoat at h
    obtain ⟨x, dx, ml, cl, vs, h1, h2, h3, h4, h5⟩ := h
    exact ⟨x, dx, ml, cl, .non, .non, [], vs, h1, h2, h3, h4, h5⟩
  | impaled a b =>
    unfold IsCoat at h
    obtain ⟨x, dx, ml, cl, va, vb, h1, h2, h3, h4, h5, h6⟩ := h
    refine ⟨x, dx, ml, cl, .non, .non, [], [va, vb], h1, h2, h3, h4, ?_⟩
    unfold subs IsCoats
    refine ⟨h5, ?_⟩
    unfold IsCoats
    exact ⟨h6, by unfold IsCoats; trivial⟩
  | pretence a b =>
    unfold IsCoat at h
    obtain ⟨x, dx, ml, cl, va, vb, h1, h2, h3, h4, h5, h6⟩ := h
    refine ⟨x, dx, ml, cl, .non, .non, [], [va, vb], h1, h2, h3, h4, ?_⟩
    unfold subs IsCoats
    refine ⟨h5, ?_⟩
    unfold IsCoats
    exact ⟨h6, by unfold IsCoats; trivial⟩
theorem IsCoats.get {K : PySem.W.Frag} {D : Hp} : ∀ {vs : List V} {ls : List Coat} {i : Nat} {v : V}, IsCoats K D vs ls → vs[i]? = some v → ∃ c, ls[i]? = some c ∧ IsCoat K D v c
  | [], [], _, _, _, e => by simp at e
  | _ :: _, c :: _, 0, v, h, e => by
    unfold IsCoats at h
    simp at e
    subst e
    exact ⟨c, rfl, h.1⟩
  | _ :: _, _ :: _, i + 1, v, h, e => by
    unfold IsCoats at h
    exact IsCoats.get (i := i) h.2 (by simpa using e)
  | [], _ :: _, _, _, h, _ => by unfold IsCoats at h; exact h.elim
  | _ :: _, [], _, _, h, _ => by unfold IsCoats at h; exact h.elim
theorem wf_subs {c : Coat} (h : WfCoat c) : WfCoats (subs c) ∧ (subs c).length ≤ 9 := by
  cases c with
  | one m => exact ⟨by unfold subs WfCoats; trivial, by simp [subs]⟩
  | quarters l =>
    unfold WfCoat at h
    exact ⟨h.2.2, h.2.1⟩
  | impaled a b =>
    unfold WfCoat at h
    refine ⟨?_, by simp [subs]⟩
    unfold subs WfCoats
    refine ⟨h.1, ?_⟩
    unfold WfCoats
    exact ⟨h.2, by unfold WfCoats; trivial⟩
  | pretence a b =>
    unfold WfCoat at h
    refine ⟨?_, by simp [subs]⟩
    unfold subs WfCoats
    refine ⟨h.1, ?_⟩
    unfold WfCoats
    exact ⟨h.2, by unfold WfCoats; trivial⟩
theorem WfCoats.get : ∀ {ls : List Coat} {i : Nat} {c : Coat}, WfCoats ls → ls[i]? = some c → WfCoat c
  | [], _, _, _, e => by simp at e
  | x :: _, 0, c, h, e => by
    unfold WfCoats at h
    simp at e
    subst e
    exact h.1
  | _ :: _, i + 1, c, h, e => by
    unfold WfCoats at h
    exact WfCoats.get (i := i) h.2 (by simpa using e)
theorem deep_get : ∀ {ls : List Coat} {i : Nat} {c : Coat}, ls[i]? = some c → c.deep ≤ deepest ls
  | [], _, _, e => by simp at e
  | x :: l, 0, c, e => by
    simp at e
    subst e
    show x.deep ≤ max x.deep (deepest l)
    omega
  | x :: l, i + 1, c, e => by
    have := deep_get (ls := l) (i := i) (by simpa using e)
    show c.deep ≤ max x.deep (deepest l)
    omega
theorem deep_subs {c : Coat} (h : kindN c ≠ 0) : c.deep = deepest (subs c) + 1 := by
  cases c with
  | one m => exact absurd rfl h
  | quarters l => unfold Coat.deep subs; rfl
  | impaled a b =>
    unfold Coat.deep subs
    show max a.deep b.deep + 1 = max a.deep (max b.deep 0) + 1
    omega
  | pretence a b =>
    unfold Coat.deep subs
    show max a.deep b.deep + 1 = max a.deep (max b.deep 0) + 1
    omega
theorem deep_pos (c : Coat) : 1 ≤ c.deep := by cases c <;> (unfold Coat.deep; omega)
theorem parts_subs {c : Coat} (h : kindN c ≠ 0) : c.parts = partsOf (subs c) := by
  cases c with
  | one m => exact absurd rfl h
  | quarters l => unfold Coat.parts subs; rfl
  | impaled a b =>
    unfold Coat.parts subs
    show a.parts + b.parts = a.parts + (b.parts + 0)
    omega
  | pretence a b =>
    unfold Coat.parts subs
    show a.parts + b.parts = a.parts + (b.parts + 0)
    omega
theorem partsOf_sum : ∀ l : List Coat, ((partsOf l : Nat) : Int) = (l.map fun c => (c.parts : Int)).sum
  | [] => rfl
  | c :: l => by
    have := partsOf_sum l
    show ((c.parts + partsOf l : Nat) : Int) = (c.parts : Int) + (l.map fun c => (c.parts : Int)).sum
    rw [← this]
    omega
theorem deepest_le {l : List Coat} {m : Int} (h : ∀ y ∈ l.map (fun c => (c.deep : Int)), y ≤ m) (hm : 0 ≤ m) : ((deepest l : Nat) : Int) ≤ m := by
  induction l with
  | nil => exact hm
  | cons c l ih =>
    have h1 := h (c.deep : Int) (by simp)
    have h2 := ih fun y hy => h y (by simp only [List.map_cons, List.mem_cons]; exact .inr hy)
    show ((max c.deep (deepest l) : Nat) : Int) ≤ m
    omega
theorem deepest_mem {l : List Coat} {m : Int} (h : m ∈ l.map fun c => (c.deep : Int)) : m ≤ ((deepest l : Nat) : Int) := by
  induction l with
  | nil => cases h
  | cons c l ih =>
    show m ≤ ((max c.deep (deepest l) : Nat) : Int)
    simp only [List.map_cons, List.mem_cons] at h
    rcases h with h | h
    · omega
    · have := ih h
      omega
theorem wf_ne {c : Coat} (h : WfCoat c) (k : kindN c ≠ 0) : subs c ≠ [] := by
  cases c with
  | one m => exact absurd rfl k
  | quarters l =>
    unfold WfCoat at h
    intro z
    have z' : l = [] := z
    rw [z'] at h
    simp at h
  | impaled a b => simp [subs]
  | pretence a b => simp [subs]
theorem take_more {α : Type} {l : List α} {i : Nat} {x : α} (h : l[i]? = some x) : l.take (i + 1) = l.take i ++ [x] := by
  rw [List.take_add_one, h]
  rfl
end Hc

/-! ### F. points of coats -/
namespace Hc
open PySem PySem.Spec PyProof.Rows L2
open Sh ShMarsh
/-- which coat of coats together a point is of, and where -/
def quartN (n p r : Nat) : Nat × Nat × Nat := (if r * side n / 576 * side n + p * side n / 480 < n then r * side n / 576 * side n + p * side n / 480 else 0, p * side n % 480, r * side n % 576)
def withinN (c : Coat) (p r : Nat) : Nat × Nat × Nat := match c with
  | .one _ => (0, p, r)
  | .quarters l => quartN l.length p r
  | .impaled _ _ => if p < 240 then (0, 2 * p, r) else (1, 2 * (p - 240), r)
  | .pretence _ _ => if 160 ≤ p ∧ p < 320 ∧ 192 ≤ r ∧ r < 384 then (1, 3 * (p - 160), 3 * (r - 192)) else (0, p, r)
theorem pick_get : ∀ {l : List Coat} {k i p r : Nat} {c : Coat}, l[k]? = some c → pick l k i p r = c.partAt (i + partsOf (l.take k)) p r
  | [], _, _, _, _, _, e => by simp at e
  | x :: l, 0, i, p, r, c, e => by
    simp at e
    subst e
    unfold pick
    rfl
  | x :: l, k + 1, i, p, r, c, e => by
    have ih := pick_get (l := l) (k := k) (i := i + x.parts) (p := p) (r := r) (c := c) (by simpa using e)
    unfold pick
    rw [if_neg (by omega), show k + 1 - 1 = k from rfl, ih]
    show c.partAt (i + x.parts + partsOf (l.take k)) p r = c.partAt (i + (x.parts + partsOf (l.take k))) p r
    rw [Nat.add_assoc]
theorem side_ge (n : Nat) : 1 ≤ side n ∧ side n ≤ 3 := by
  unfold side
  split
  · omega
  · split <;> omega
/-- one step down -/
theorem within_ok {c : Coat} {p r : Nat} (wf : WfCoat c) (hk : kindN c ≠ 0) (hp : p < 480) (hr : r < 576) :
    ∃ c', (subs c)[(withinN c p r).1]? = some c' ∧ (withinN c p r).2.1 < 480 ∧ (withinN c p r).2.2 < 576 ∧ ∀ i, c.partAt i p r = c'.partAt (i + partsOf ((subs c).take (withinN c p r).1)) (withinN c p r).2.1 (withinN c p r).2.2 := by
  cases c with
  | one m => exact absurd rfl hk
  | quarters l =>
    unfold WfCoat at wf
    have hlt : (withinN (.quarters l) p r).1 < l.length := by
      unfold withinN quartN
      simp only
      split <;> omega
    refine ⟨l[(withinN (.quarters l) p r).1], List.getElem?_eq_getElem hlt, Nat.mod_lt _ (by omega), Nat.mod_lt _ (by omega), fun i => ?_⟩
    have e := pick_get (l := l) (k := (withinN (.quarters l) p r).1) (i := i) (p := p * side l.length % 480) (r := r * side l.length % 576) (List.getElem?_eq_getElem hlt)
    have e0 : (Coat.quarters l).partAt i p r = pick l (withinN (.quarters l) p r).1 i (p * side l.length % 480) (r * side l.length % 576) := by
      rw [Coat.partAt]
      rfl
    exact e0.trans e
  | impaled a b =>
    by_cases c : p < 240
    · refine ⟨a, ?_, ?_, ?_, fun i => ?_⟩
      · simp [withinN, c, subs]
      · simp [withinN, c]; omega
      · simp [withinN, c]; exact hr
      · simp [withinN, c, subs, partsOf, Coat.partAt]
    · refine ⟨b, ?_, ?_, ?_, fun i => ?_⟩
      · simp [withinN, c, subs]
      · simp [withinN, c]; omega
      · simp [withinN, c]; exact hr
      · simp [withinN, c, subs, partsOf, Coat.partAt]
  | pretence a b =>
    by_cases c : 160 ≤ p ∧ p < 320 ∧ 192 ≤ r ∧ r < 384
    · refine ⟨b, ?_, ?_, ?_, fun i => ?_⟩
      · simp [withinN, c, subs]
      · simp [withinN, c]; omega
      · simp [withinN, c]; omega
      · simp [withinN, c, subs, partsOf, Coat.partAt]
    · refine ⟨a, ?_, ?_, ?_, fun i => ?_⟩
      · simp only [withinN]; rw [if_neg c]; rfl
      · simp only [withinN]; rw [if_neg c]; exact hp
      · simp only [withinN]; rw [if_neg c]; exact hr
      · simp only [withinN]; rw [if_neg c]
        simp only [Coat.partAt]; rw [if_neg c]
        simp [subs, partsOf]
theorem cutV_take {xs : List V} {k : Nat} : cutV xs none (some (k : Int)) = xs.take k := by
  unfold cutV
  rw [HT.sIx_none, HT.sIx_nat]
  simp
theorem IsCoats.take {K : PySem.W.Frag} {D : Hp} : ∀ {vs : List V} {ls : List Coat} (k : Nat), IsCoats K D vs ls → IsCoats K D (vs.take k) (ls.take k)
  | _, _, 0, _ => by
    rw [List.take_zero, List.take_zero]
    unfold IsCoats
    trivial
  | [], [], _ + 1, _ => by
    rw [List.take_nil, List.take_nil]
    unfold IsCoats
    trivial
  | _ :: vs, _ :: ls, k + 1, h => by
    unfold IsCoats at h
    rw [List.take_succ_cons, List.take_succ_cons]
    unfold IsCoats
    exact ⟨h.1, IsCoats.take k h.2⟩
  | [], _ :: _, _, h => by unfold IsCoats at h; exact h.elim
  | _ :: _, [], _, h => by unfold IsCoats at h; exact h.elim
theorem WfCoats.take : ∀ {ls : List Coat} (k : Nat), WfCoats ls → WfCoats (ls.take k)
  | _, 0, _ => by
    rw [List.take_zero]
    unfold WfCoats
    trivial
  | [], _ + 1, _ => by
    rw [List.take_nil]
    unfold WfCoats
    trivial
  | _ :: ls, k + 1, h => by
    unfold WfCoats at h
    rw [List.take_succ_cons]
    unfold WfCoats
    exact ⟨h.1, WfCoats.take k h.2⟩
theorem deep_take : ∀ {ls : List Coat} (k : Nat), deepest (ls.take k) ≤ deepest ls
  | _, 0 => by
    rw [List.take_zero]
    exact Nat.zero_le _
  | [], _ + 1 => by
    rw [List.take_nil]
    exact Nat.le_refl _
  | x :: ls, k + 1 => by
    have := deep_take (ls := ls) k
    rw [List.take_succ_cons]
    show max x.deep (deepest (ls.take k)) ≤ max x.deep (deepest ls)
    omega
end Hc

/-! ### V. readings that give a value and leave the heap -/
namespace Hc
open PySem PySem.Spec PyProof.Rows L2
def Vl (te : TE) (σ : L2.St) (H : Hp) (v : V) : Prop := ∀ Q : VK, Q v H → te σ H Q
def An (t : TT) (σ : L2.St) (H : Hp) (b : Bool) : Prop := ∀ Q : Bool → Hp → Prop, Q b H → t σ H Q
def VA (ta : TA) (σ : L2.St) (H : Hp) (vs : List V) : Prop := ∀ Q : List V → Hp → Prop, Q vs H → ta σ H Q
def Rt (ts : TS) (σ : L2.St) (H : Hp) (v : V) : Prop := ∀ D : Ends, D.rt v H → ts D σ H
/-- the promise of a def that gives v for vs where F says so, and leaves the heap -/
def spFun (F : List V → V → Prop) : Sp := fun vs H Q _ => ∃ v, F vs v ∧ Q v H
section
variable {σ : L2.St} {H : Hp} {ta tb tc te : TE} {t u : TT} {x y v w : V} {i j k : Int} {a b : Bool} {tr : TA} {vs : List V} {n : Nat} {ts tz : TS}
theorem v_var (h : σ[n]? = some (some v)) : Vl (tVar n) σ H v := fun _ q => ⟨v, h, q⟩
theorem v_c : Vl (tC v) σ H v := fun _ q => q
theorem v_i0 {g : Int → Int → V} (ha : Vl ta σ H (.int i)) (hb : Vl tb σ H (.int j)) : Vl (tOp (rI0 g) ta tb) σ H (g i j) := fun _ q => ha _ (hb _ ⟨i, j, rfl, rfl, q⟩)
theorem v_i {C : Int → Int → Prop} {g : Int → Int → V} (ha : Vl ta σ H (.int i)) (hb : Vl tb σ H (.int j)) (c : C i j) : Vl (tOp (rI C g) ta tb) σ H (g i j) := fun _ q => ha _ (hb _ ⟨i, j, rfl, rfl, c, q⟩)
theorem v_neg (ha : Vl ta σ H (.int i)) : Vl (tUn (rU fun i => .int (-i)) ta) σ H (.int (-i)) := fun _ q => ha _ ⟨i, rfl, q⟩
theorem v_eq (ha : Vl ta σ H (.int i)) (hb : Vl tb σ H (.int j)) : Vl (tOp rEq ta tb) σ H (.bl (decide (i = j))) := fun Q q => ha _ (hb _ ⟨rfl, by
  have e : decide (V.int i = V.int j) = decide (i = j) := by
    by_cases z : i = j
    · rw [z]; simp
    · rw [decide_eq_false z, decide_eq_false (fun y => z (by injection y))]
  rw [e]
  exact q⟩)
theorem v_ne (ha : Vl ta σ H (.int i)) (hb : Vl tb σ H (.int j)) : Vl (tOp rNe ta tb) σ H (.bl (!decide (i = j))) := fun Q q => ha _ (hb _ ⟨rfl, by
  have e : decide (V.int i = V.int j) = decide (i = j) := by
    by_cases z : i = j
    · rw [z]; simp
    · rw [decide_eq_false z, decide_eq_false (fun y => z (by injection y))]
  rw [e]
  exact q⟩)
theorem v_eqB (ha : Vl ta σ H (.bl a)) (hb : Vl tb σ H (.bl b)) : Vl (tOp rEq ta tb) σ H (.bl (a == b)) := fun Q q => ha _ (hb _ ⟨rfl, by
  have e : decide (V.bl a = V.bl b) = (a == b) := by cases a <;> cases b <;> rfl
  rw [e]
  exact q⟩)
theorem v_neB (ha : Vl ta σ H (.bl a)) (hb : Vl tb σ H (.bl b)) : Vl (tOp rNe ta tb) σ H (.bl (a != b)) := fun Q q => ha _ (hb _ ⟨rfl, by
  have e : (!decide (V.bl a = V.bl b)) = (a != b) := by cases a <;> cases b <;> rfl
  rw [e]
  exact q⟩)
theorem v_chain {g g' : Int → Int → Bool} (ha : Vl ta σ H (.int i)) (hb : Vl tb σ H (.int j)) (hc : Vl tc σ H (.int k)) : Vl (tChain (rI0 fun i j => .bl (g i j)) (rI0 fun i j => .bl (g' i j)) ta tb tc) σ H (.bl (g i j && g' j k)) := fun Q q => ha _ (hb _ ⟨i, j, rfl, rfl, _, rfl, by
  cases h : g i j with
  | true =>
    rw [h] at q
    exact hc _ ⟨j, k, rfl, rfl, q⟩
  | false =>
    rw [h] at q
    exact q⟩)
theorem v_and (ha : Vl ta σ H (.bl a)) (hb : Vl tb σ H (.bl b)) : Vl (tAndV ta tb) σ H (.bl (a && b)) := fun Q q => ha _ ⟨a, rfl, by
  cases a with
  | true => exact hb _ q
  | false => exact q⟩
theorem v_or (ha : Vl ta σ H (.bl a)) (hb : Vl tb σ H (.bl b)) : Vl (tOrV ta tb) σ H (.bl (a || b)) := fun Q q => ha _ ⟨a, rfl, by
  cases a with
  | true => exact q
  | false => exact hb _ q⟩
theorem v_not (ha : Vl ta σ H (.bl a)) : Vl (tNotV ta) σ H (.bl (!a)) := fun _ q => ha _ ⟨a, rfl, q⟩
theorem v_ifI (h : An t σ H b) (ha : Vl ta σ H (.int i)) (hb : Vl tb σ H (.int j)) : Vl (tIf t ta tb) σ H (.int (if b = true then i else j)) := fun Q q => h _ (by
  cases b with
  | true => exact ha _ q
  | false => exact hb _ q)
theorem v_ifB {c : Bool} (h : An t σ H c) (ha : Vl ta σ H (.bl a)) (hb : Vl tb σ H (.bl b)) : Vl (tIf t ta tb) σ H (.bl (if c = true then a else b)) := fun Q q => h _ (by
  cases c with
  | true => exact ha _ q
  | false => exact hb _ q)
theorem v_call {F : List V → V → Prop} {E : XK} (h : VA tr σ H vs) (hf : F (vs ++ []) v) : Vl (tCall (spFun F) [] E tr) σ H v := fun _ q => h _ ⟨v, hf, q⟩
theorem v_abs (h : VA tr σ H [.int i]) : Vl (tCB (fun xs H Q => ∃ i : Int, xs = [.int i] ∧ Q (.int (if i < 0 then -i else i)) H) tr) σ H (.int (if i < 0 then -i else i)) := fun _ q => h _ ⟨i, rfl, q⟩
theorem v_min (h : VA tr σ H [.int i, .int j]) : Vl (tCB (fun xs H Q => ∃ i j : Int, xs = [.int i, .int j] ∧ Q (.int (if j < i then j else i)) H) tr) σ H (.int (if j < i then j else i)) := fun _ q => h _ ⟨i, j, rfl, q⟩
theorem va_nil : VA tNil σ H [] := fun _ q => q
theorem va_cons (h : Vl te σ H v) (hr : VA tr σ H vs) : VA (tCons te tr) σ H (v :: vs) := fun _ q => h _ (hr _ q)
theorem a_test (h : Vl te σ H (.bl b)) : An (tTest te) σ H b := fun _ q => h _ ⟨b, rfl, q⟩
theorem a_B (h : Vl te σ H (.bl b)) : An (tB te) σ H b := fun _ q => h _ ⟨b, rfl, q⟩
theorem a_and (h1 : An t σ H a) (h2 : An u σ H b) : An (tAnd t u) σ H (a && b) := fun Q q => h1 _ (by
  cases a with
  | true => exact h2 _ q
  | false => exact q)
theorem a_or (h1 : An t σ H a) (h2 : An u σ H b) : An (tOr t u) σ H (a || b) := fun Q q => h1 _ (by
  cases a with
  | true => exact q
  | false => exact h2 _ q)
theorem a_not (h : An t σ H a) : An (tNot t) σ H (!a) := fun _ q => h _ q
theorem An.go {D : Ends} {t1 t2 t3 : TS} (h : An t σ H b) (k : if b = true then t1 { D with nx := t3 D } σ H else t2 { D with nx := t3 D } σ H) : tSeq (tIfS t t1 t2) t3 D σ H := h _ k
theorem r_ret (h : Vl te σ H v) : Rt (tRet te) σ H v := fun _ q => h _ q
theorem r_ifI (h : An t σ H b) (h1 : b = true → Rt ts σ H (.int i)) (h2 : b = false → Rt tz σ H (.int j)) : Rt (tSeq (tIfS t ts tNext) tz) σ H (.int (if b = true then i else j)) := fun D q => h _ (by
  cases b with
  | true => exact h1 rfl _ q
  | false => exact h2 rfl _ q)
theorem r_ifB {c : Bool} (h : An t σ H c) (h1 : c = true → Rt ts σ H (.bl a)) (h2 : c = false → Rt tz σ H (.bl b)) : Rt (tSeq (tIfS t ts tNext) tz) σ H (.bl (if c = true then a else b)) := fun D q => h _ (by
  cases c with
  | true => exact h1 rfl _ q
  | false => exact h2 rfl _ q)
theorem r_set (h : Vl te σ H v) (h2 : Rt tz (σ.set n (some v)) H w) : Rt (tSeq (tAsg te (gName n)) tz) σ H w := fun D q => h _ (h2 D q)
theorem a_when {D : Ends} {t1 t3 : TS} (h : An t σ H b) (h1 : b = true → t1 { D with nx := t3 D } σ H) (h2 : b = false → t3 D σ H) : tSeq (tIfS t t1 tNext) t3 D σ H := h _ (by
  cases b with
  | true => exact h1 rfl
  | false => exact h2 rfl)
theorem rt_I {D : Ends} (h : Rt ts σ H (.int i)) (e : i = j) (k : D.rt (.int j) H) : ts D σ H := h D (e ▸ k)
theorem rt_B {D : Ends} (h : Rt ts σ H (.bl a)) (e : a = b) (k : D.rt (.bl b) H) : ts D σ H := h D (e ▸ k)
end
end Hc

-- EXTRA KE.GoesEnum KE.GoesMore KE.DataMinMax KE.DatumOrd HandS.Walk
/-! ### G. tuples of tuples at the top, enumerate over a tuple, a tuple's greatest -/
namespace Hc
open PySem PySem.Spec PyProof.Rows L2
def rowAt (K : PySem.W.Frag) (x : Str) (i : Nat) : Addr := match K.lookup (He.ga K x) with
  | some ⟨_, _, .seq its _, _⟩ => (match its[i]? with
    | some (.ref a) => a
    | _ => 0)
  | _ => 0
def tupAtB (K : PySem.W.Frag) (a : Addr) (vs : List V) : Bool := match K.lookup a with
  | some ⟨.type c, _, .seq its _, _⟩ => decide (c = "tuple") && (decide (its.size ≤ sizeLine) && He.relAll vs its.toList)
  | _ => false
theorem tupAtB_ok {K : PySem.W.Frag} {a : Addr} {vs : List V} (h : tupAtB K a vs = true) (H : Hp) : SqT K H a vs := by
  unfold tupAtB at h
  cases q : K.lookup a with
  | none =>
    rw [q] at h
    cases h
  | some o =>
    obtain ⟨oc, od, dt, osl⟩ := o
    rw [q] at h
    cases oc with
    | type c =>
      cases dt with
      | seq its n =>
        obtain ⟨h1, h2⟩ := He.ba (show (decide (c = "tuple") && (decide (its.size ≤ sizeLine) && He.relAll vs its.toList)) = true from h)
        obtain ⟨h3, h4⟩ := He.ba h2
        exact .inr ⟨_, its, n, q, congrArg Value.type (of_decide_eq_true h1), rfl, of_decide_eq_true h3, He.relAll_ok h4⟩
      | _ => cases h
    | _ => cases dt <;> cases h
def rowAs (K : PySem.W.Frag) (x : Str) (n : Nat) : List Addr := (List.range n).map (rowAt K x)
def tup2B (K : PySem.W.Frag) (x : Str) (rows : List (List Int)) : Bool := tupAtB K (He.ga K x) ((rowAs K x rows.length).map V.ref) && (rows.zipIdx.all fun r => tupAtB K (rowAt K x r.2) (r.1.map V.int))
/-- a tuple of tuples of numbers -/
def Rows (K : PySem.W.Frag) (_ : Hp) (a : Addr) (rows : List (List Int)) : Prop := ∃ as : List Addr, as.length = rows.length ∧ (∀ H : Hp, SqT K H a (as.map V.ref)) ∧ ∀ (i : Nat) (r : List Int), rows[i]? = some r → ∃ b, as[i]? = some b ∧ ∀ H : Hp, SqT K H b (r.map V.int)
theorem tup2B_ok {K : PySem.W.Frag} {x : Str} {rows : List (List Int)} (h : tup2B K x rows = true) (H : Hp) : Rows K H (He.ga K x) rows := by
  obtain ⟨h1, h2⟩ := He.ba h
  refine ⟨rowAs K x rows.length, by simp [rowAs], tupAtB_ok h1, fun i r hi => ⟨rowAt K x i, ?_, ?_⟩⟩
  · have il : i < rows.length := (List.getElem?_eq_some_iff.mp hi).1
    simp [rowAs, il]
  · have z := List.all_eq_true.mp h2 (r, i) (by rw [List.mem_iff_getElem?]; exact ⟨i, by simp [hi]⟩)
    exact tupAtB_ok z
/-- the tuple at a, each item in a new pair -/
def IteT (K : PySem.W.Frag) (a : Addr) : It :=
  ⟨fun i H => ∃ (xs : List V) (x : V), SqT K H a xs ∧ xs[i]? = some x, fun i H v H' => ∃ T x, v = .ref T ∧ H T = none ∧ H' = upd H T (.tup [.int (i : Nat), x]) ∧ ∀ xs, SqT K H a xs → xs[i]? = some x, fun i H => ∃ xs : List V, SqT K H a xs ∧ xs.length ≤ i⟩
open PySem.Sem (wp) in
set_option maxHeartbeats 4000000 in
theorem meets_enum1 {v : Value} {o : Obj} {H : Heap → Prop} (B : Begins v o H) :
    Meets (Builtin.«enumerate.__new__» ⟨[.type "enumerate", v], []⟩) (fun _ R s => H s.heap ∧
      R (.ok (.ret (.ref (s.heap.push o).objs.size))) { s with heap := (s.heap.push o).push { cls := .type "enumerate", data := .fields #[.none, .bool false, .ref s.heap.objs.size, rawInt 0, .none, .none] } }) :=
  .of_wp fun prog w A R s h => by
    obtain ⟨hp, g, d, tk, os⟩ := s
    obtain ⟨h1, h⟩ := h
    have hsub := sub_enumerate
    have q1 : ∀ {A' : Around} {E : Value → Shared → Prop} {Q : Value → Shared → Prop}, Q (.ref hp.objs.size) ⟨hp.push o, g, d, tk, os⟩ → wpAny (model prog w) A' (pyIter v) Q E ⟨hp, g, d, tk, os⟩ :=
      fun q => B.iter prog w _ _ ⟨hp, g, d, tk, os⟩ _ h1 q
    wp_walk using q1
    refine wpAny_stack_any fun st => wpAny_pure ?_
    split
    · rename_i c _ _ _ _ _
      cases (c == Value.type "enumerate")
      · wp_walk using q1
        exact ⟨_, rfl, h⟩
      · wp_walk using q1
        exact ⟨_, rfl, h⟩
    · wp_walk using q1
      exact ⟨_, rfl, h⟩
theorem call_enum1 {prog : Program} {w : World} {A : Around} {E : Value → Shared → Prop} {s : Shared} {v : Value} {o : Obj} {H : Heap → Prop} {Q : Value → Shared → Prop} (B : Begins v o H) (h1 : H s.heap)
    (h : ∀ h', IsEnum h' (s.heap.objs.size + 1) s.heap.objs.size 0 .none → h'.get? s.heap.objs.size = some o →
      (∀ b o, s.heap.get? b = some o → h'.get? b = some o) → Q (.ref (s.heap.objs.size + 1)) { s with heap := h' }) :
    wpAny (model prog w) A (call (.type "enumerate") [v]) Q E s := by
  refine callType_new F.called_enumerate (by decide) (F.typeCall_enumerate_1 _) (F.newCall_enumerate_1 _) (fun obj => F.args_object_init_2 obj _) F.entry_enumerate_new (meets_enum1 B) ⟨h1, ?_⟩
  have hz : (s.heap.push o).objs.size = s.heap.objs.size + 1 := Heap.size_push ..
  show _ ∧ _
  rw [hz]
  have he : IsEnum ((s.heap.push o).push { cls := .type "enumerate", data := .fields #[.none, .bool false, .ref s.heap.objs.size, rawInt 0, .none, .none] }) (s.heap.objs.size + 1) s.heap.objs.size 0 .none := by
    have := Heap.get?_push_size (s.heap.push o) (o := { cls := .type "enumerate", data := .fields #[.none, .bool false, .ref s.heap.objs.size, rawInt 0, .none, .none] }) rfl
    rw [hz] at this
    exact this
  exact ⟨⟨_, he, rfl⟩, h _ he (Heap.get?_push_of_some _ (Heap.get?_push_size _ B.free)) fun b o x => Heap.get?_push_of_some _ (Heap.get?_push_of_some _ x)⟩
theorem turn_enumT {P : Program} {w : World} {K : PySem.W.Frag} {elts : List Expr} {kk : Nat} {tpos : Pos} (a e it : Addr) :
    Turn P w K (.Tuple elts kk tpos) (IteT K a) [e, it] e (fun i h => (∃ old, IsEnum h e it ((i : Nat) : Int) old) ∧ h.IsTupleIter it a i ∧ e ≠ it ∧ a ≠ it ∧ a ≠ e) where
  mem := by simp
  obj := fun i h st b hb => by
    obtain ⟨⟨old, he⟩, ⟨o, ho, hc, hd⟩, _⟩ := st
    have e' : b = e ∨ b = it := by simpa using hb
    rcases e' with z | z
    · rw [z]; exact ⟨_, he, fun v q => nomatch q⟩
    · rw [z]; exact ⟨o, ho, fun v q => by rw [hd] at q; cases q⟩
  keep := fun i h h' st k => let ⟨⟨old, he⟩, hi, hne⟩ := st; ⟨⟨old, k e (by simp) _ he⟩, hi.at fun o q => k it (by simp) o q, hne⟩
  item := by
    intro X hP hw hK hc i pins s σ H E I hf st hg
    subst hP hw hK
    obtain ⟨⟨old, he⟩, hit, hne, hai, hae⟩ := st
    obtain ⟨xs, x, hq, hx⟩ := hg
    obtain ⟨its, rv, p, hz⟩ := I.tuple hq
    obtain ⟨u, hu, ru⟩ := rv.get hx
    have hel : e < s.heap.objs.size := Heap.lt_size he
    have hil : it < s.heap.objs.size := by obtain ⟨_, q, _⟩ := hit; exact Heap.lt_size q
    have hlt : i < its.toArray.size := by
      have := (List.getElem?_eq_some_iff.mp hu).1
      simpa using this
    have p' : s.heap.IsTuple a its.toArray := p
    refine wpAny_pyNext_enum_itemD (Draws.tuple (prog := X.prog) (w := X.w) (A := X.A.in1) (I.ok.hd hc) it a hai its.toArray) he ⟨hit, p'⟩ hlt hne (by simp [hne, hae.symm]) fun x' h' tk hx' ho hst' hT hsz hk => ?_
    obtain ⟨hit', _⟩ := hst'
    have ex : x' = u := by
      have z : its[i]? = some x' := by simpa using hx'
      rw [hu] at z
      exact (Option.some.inj z).symm
    subst ex
    refine ⟨_, rfl, wpAny_letOwnedTupleGo_enum (s := { s with heap := h', toks := tk + 1 }) ho fun h'' he' sb => ?_⟩
    have hT2 : h''.get? s.heap.objs.size = some { cls := .type "tuple", data := .seq #[.int i tk, x'] } := (sb.2 _ (Nat.ne_of_gt hel)).trans hT
    have new : ObjOk X.prog X.w (upd H s.heap.objs.size (.tup [.int (i : Nat), x])) h'' s.heap.objs.size (.tup [.int (i : Nat), x]) :=
      ⟨by show 2 ≤ sizeLine; decide, [.int i tk, x'], .cons ⟨_, rfl⟩ (.cons ru .nil), ⟨_, hT2, rfl, _, rfl⟩⟩
    have I1 : Inv X pins σ (upd H s.heap.objs.size (.tup [.int (i : Nat), x])) { s with heap := h'', toks := tk + 1 } :=
      I.turnedNew (ch := [e, it]) (fun b ob hb q => (sb.2 b (fun z => hb (by simp [z]))).trans (hk b ob (fun z => hb (by simp [z])) (fun z => hb (by simp [z])) q)) hf (Nat.le_refl _) new
    refine ⟨.ref s.heap.objs.size, _, I1, rfl, ⟨_, x, rfl, I.hok.fresh (Nat.le_refl _), rfl, fun ys hy => by rw [I.tuple_inj hy hq]; exact hx⟩, ⟨⟨x', ?_⟩, hit'.at fun o q => (sb.2 it (Ne.symm hne)).trans q, hne, hai, hae⟩, fun b hb => ?_⟩
    · have e1 : ((i + 1 : Nat) : Int) = (i : Int) + 1 := by omega
      rw [e1]; exact he'
    · have hb' : b < s.heap.objs.size := by
        have e' : b = e ∨ b = it := by simpa using hb
        rcases e' with z | z
        · rw [z]; exact hel
        · rw [z]; exact hil
      rw [upd_ne (Nat.ne_of_lt hb')]
      exact (hf b hb).1
  done := by
    intro X hP hw hK hc i pins s σ H E I hf st hg
    subst hP hw hK
    obtain ⟨⟨old, he⟩, hit, hne, hai, hae⟩ := st
    obtain ⟨xs, hq, hx⟩ := hg
    obtain ⟨its, rv, p, hz⟩ := I.tuple hq
    obtain ⟨f0, f1, f2, f3, f4, f5⟩ := hf it (by simp)
    have hl := rv.length
    have p' : s.heap.IsTuple a its.toArray := p
    have D : Draws X.prog X.w X.A.in1 it [it, a] i (fun _ _ => False) (fun j h => j = i ∧ h.IsTupleIter it a i ∧ h.IsTuple a its.toArray) := {
      live := fun _ _ st => let ⟨o, ho, _⟩ := st.2.1; ⟨o, ho⟩
      frame := fun _ _ _ st hk => ⟨st.1, st.2.1.at fun o e => hk it (by simp) o e, st.2.2.at fun o e => hk a (by simp) o e⟩
      item := fun j s Q E hj st _ => absurd hj (by rw [st.1]; exact Nat.lt_irrefl i)
      done := fun s Q E st hE => wpAny_nextOf_tuple_end (I.ok.hd hc) st.2.1 st.2.2 (by simp; omega) hE }
    exact wpAny_pyNext_enum_endD D he ⟨rfl, hit, p'⟩ fun h' eb => ⟨rfl, I.turned (t' := s.toks) (fun b o hb q => eb b o hb q) f0 f1 f3 f4 f5⟩
  self := fun A i s Q E st h => let ⟨⟨_, he⟩, _⟩ := st; wpAny_pyIter_enum he h
def iEnumT (K : PySem.W.Frag) (ta : TA) : TI := fun σ H R => ta σ H fun vs H1 => ∃ a xs, vs = [.ref a] ∧ SqT K H1 a xs ∧ R (IteT K a) H1
theorem pi_enumT {X : Cx} {e : Expr} {ta : TA} {p pos tpos : Pos} {elts : List Expr} {kk : Nat} (hm : X.mg "enumerate" = none) (hg : Gl X "enumerate") (ha : PA X [e] ta) (hs : starEach [e] X.env = [(false, eval e X.env)] := by rfl) :
    PI X (.Tuple elts kk tpos) (.Call (.Name "enumerate" p) [e] [] pos) (iEnumT X.K ta) := by
  refine ⟨fun pins s σ H R I h => ?_⟩
  refine Call_ (ld_blt I hg hm boot_enumerate (PyProof.Rows.callWith_type1 (thn (ha.run pos pins s σ H _ I h) fun us s1 ⟨vs, H1, I1, r1, q1⟩ => ?_) hs rfl))
  obtain ⟨a, xs, ex, hq, q⟩ := q1
  subst ex
  cases r1 with
  | cons r rr =>
    cases rr
    cases r
    obtain ⟨its, rv, p', hz⟩ := I1.tuple hq
    have p2 : s1.heap.IsTuple a its.toArray := p'
    have hal : a < s1.heap.objs.size := by obtain ⟨_, q, _⟩ := p2; exact Heap.lt_size q
    refine call_enum1 (begins_tuple a its.toArray) p2 fun h' he hit hk => wpAny_pyIter_enum he ?_
    have I2 : Inv X pins σ H1 { s1 with heap := h' } := I1.kept (t' := s1.toks) hk
    refine ⟨s1.heap.objs.size + 1, [s1.heap.objs.size + 1, s1.heap.objs.size], _, _, H1, rfl, I2, turn_enumT a (s1.heap.objs.size + 1) s1.heap.objs.size, ⟨⟨.none, he⟩, ⟨_, hit, rfl, rfl⟩, Nat.succ_ne_self _, Nat.ne_of_lt hal, Nat.ne_of_lt (Nat.lt_succ_of_lt hal)⟩, fun b hb => ?_, q⟩
    have e' : b = s1.heap.objs.size + 1 ∨ b = s1.heap.objs.size := by simpa using hb
    have hle : s1.heap.objs.size ≤ b := by
      rcases e' with z | z
      · rw [z]; exact Nat.le_add_right _ _
      · rw [z]; exact Nat.le_refl _
    exact I1.fpOk hle (I1.hok.fresh hle)
theorem walk_enumT {K : PySem.W.Frag} {a : Addr} {xs : List V} : Walk (IteT K a) xs.length (fun H => SqT K H a xs) (YPair (fun i => some (.int (i : Nat))) (fun i => xs[i]?)) := by
  refine ⟨fun i _ hi q => ⟨xs, xs[i], q, by simp [hi]⟩, fun _ q => ⟨xs, q, Nat.le_refl _⟩, fun i H v H' _ q y => ?_⟩
  obtain ⟨T, x, h1, h2, h3, h4⟩ := y
  exact ⟨T, .int (i : Nat), x, h1, h2, h3, rfl, h4 xs q⟩
/-! a tuple's greatest -/
theorem ints_read {h : Heap} : ∀ {ns : List Int} {us : List Value}, Vals (ns.map V.int) us → ∃ as, ReadsAll h us (ns.map PyData.int) as
  | [], us, r => by
    cases r
    exact ⟨_, .nil⟩
  | n :: ns, us, r => by
    cases r with
    | cons r1 r2 =>
      obtain ⟨t, rfl⟩ := r1
      obtain ⟨as, q⟩ := ints_read r2
      exact ⟨_, .cons (.int n t) q⟩
theorem fold_max : ∀ (l : List Int) (a : Int), l.foldl max a ∈ a :: l ∧ ∀ y, y ∈ a :: l → y ≤ l.foldl max a
  | [], a => ⟨by simp, by simp⟩
  | b :: l, a => by
    obtain ⟨h1, h2⟩ := fold_max l (max a b)
    rw [List.foldl_cons]
    refine ⟨?_, fun y hy => ?_⟩
    · rcases List.mem_cons.mp h1 with e | e
      · rw [e]
        rcases Int.le_total a b with z | z
        · rw [Int.max_eq_right z]; simp
        · rw [Int.max_eq_left z]; simp
      · simp [e]
    · have z := h2 (max a b) (by simp)
      rcases List.mem_cons.mp hy with e | e
      · subst e; omega
      · rcases List.mem_cons.mp e with e2 | e2
        · subst e2; omega
        · exact h2 y (by simp [e2])
theorem ints_max (l : List Int) (a : Int) : ∃ m, PySem.W.maxD (.int a) (l.map PyData.int) = .int m ∧ m ∈ a :: l ∧ ∀ y, y ∈ a :: l → y ≤ m :=
  ⟨_, PySem.W.maxD_ints a l, (fold_max l a).1, (fold_max l a).2⟩
theorem cr_maxT {X : Cx} (hc : X.calm = true) (hu : X.A.units + 64 < cLine) : CallR X (.builtin "max") (fun vs H Q => ∃ (a : Addr) (ns : List Int), vs = [V.ref a] ∧ SqT X.K H a (ns.map V.int) ∧ 0 < ns.length ∧ ∀ m, m ∈ ns → (∀ y, y ∈ ns → y ≤ m) → Q (.int m) H) := by
  intro pins s σ H vs us Q I r h
  obtain ⟨a, ns, rfl, hs, hne, q⟩ := h
  obtain ⟨its, rv, hl, _⟩ := I.tuple hs
  rw [Vals.ref1 r]
  cases ns with
  | nil => cases hne
  | cons n ns =>
    obtain ⟨as, hr⟩ := ints_read (h := s.heap) rv
    have hl' : s.heap.IsTuple a its.toArray := hl
    obtain ⟨m, em, h1, h2⟩ := ints_max ns n
    refine PySem.W.max_tuple_data (I.ok.hd hc) hl' (x := .int n) (xs := ns.map PyData.int) (by simpa using hr) ?_ ?_ fun i v h' tk bs hv hread hk => ?_
    · exact PySem.W.alikeAll_datum (α := Int) (n :: ns)
    · have z : PyData.depthAll ((n :: ns).map (PySem.W.Datum.toD (α := Int))) ≤ PySem.W.Datum.depth Int := PySem.W.depthAll_map (n :: ns)
      have z2 : PySem.W.Datum.depth Int ≤ 2 := by decide
      have z3 : PyData.depthAll (PyData.int n :: List.map PyData.int ns) ≤ 2 := Nat.le_trans z z2
      exact Nat.lt_of_le_of_lt (by omega) hu
    · rw [em] at hread
      cases hread
      exact ⟨.int m, H, I.kept hk, ⟨_, rfl⟩, q m h1 h2⟩
/-! in a comprehension: the frozen fragment named from outside -/
theorem pe_makK {X : Cx} {K : PySem.W.Frag} {k : Nat} {x : Str} {ps : List Str} {sp : Sp} {e : Expr} {es : List Expr} {t : TA} {p pos : Pos} (U : Mak X.prog X.w X.K X.mg X.base k x ps sp) (hr : Room (k + 1) X.A) (hK : X.K = K) (ha : PA X (e :: es) t) (hg : Gl X x := by rfl) (hdb : (x == ("__debug__" : Str)) = false := by decide)
    (he : starEach (e :: es) X.env = (false, eval e X.env) :: starEach es X.env := by rfl) (hpl : (backTo pos (starEach es X.env)).any (·.1) = false := by rfl) : PE X (.Call (.Name x p) (e :: es) [] pos) (tMake (He.ga K x) sp [] E0 t) := by
  subst hK
  exact pe_mak U hr ha hg hdb he hpl
theorem call_len_K {X : Cx} {K : PySem.W.Frag} (hK : X.K = K) : CallR X (.builtin "len") (fun xs H Q => ∃ p ys, xs = [.ref p] ∧ (SqL K H p ys ∨ SqT K H p ys) ∧ Q (.int ys.length) H) := by
  subst hK
  exact call_len_seq
end Hc

/-! ### T. texts of bytes -/
namespace Hc
open PySem PySem.Spec PyProof.Rows L2
open Sh ShMarsh ShBlazon
def tx (b : List UInt8) : Str := ⟨(b.map UInt8.toNat).toArray⟩
def tv (b : List UInt8) : V := .str (tx b)
theorem tx_add (a b : List UInt8) : tx a ++ tx b = tx (a ++ b) := by
  show (⟨(a.map UInt8.toNat).toArray ++ (b.map UInt8.toNat).toArray⟩ : Str) = _
  unfold tx
  rw [List.map_append, List.append_toArray]
theorem tx_len (b : List UInt8) : (tx b).length = b.length := by
  show ((b.map UInt8.toNat).toArray).size = _
  simp
def joinB (s : List UInt8) : List (List UInt8) → List UInt8
  | [] => []
  | [x] => x
  | x :: y :: r => x ++ s ++ joinB s (y :: r)
theorem join_eq' (s : Str) (p : List Str) : Txt.join s p = Str.join s p := PySem.StrLaws.glued_eq_join s p
theorem tx_join (s : List UInt8) : ∀ ts : List (List UInt8), Txt.join (tx s) (ts.map tx) = tx (joinB s ts)
  | [] => by rw [join_eq']; rfl
  | [x] => by rw [join_eq']; rfl
  | x :: y :: r => by
    have ih := tx_join s (y :: r)
    rw [join_eq'] at ih ⊢
    show tx x ++ tx s ++ Str.join (tx s) ((y :: r).map tx) = _
    rw [ih, tx_add, tx_add]
    rfl
theorem joinB_len (s : List UInt8) : ∀ ts : List (List UInt8), (joinB s ts).length ≤ (ts.map List.length).sum + ts.length * s.length
  | [] => by simp [joinB]
  | [x] => by simp [joinB]
  | x :: y :: r => by
    have ih := joinB_len s (y :: r)
    unfold joinB
    simp only [List.length_append, List.map_cons, List.sum_cons, List.length_cons, Nat.add_mul] at ih ⊢
    omega
/-- words, each with a blank ahead -/
def glue (l : List (List UInt8)) : List UInt8 := l.flatMap fun b => 32 :: b
theorem glue_app (a b : List (List UInt8)) : glue (a ++ b) = glue a ++ glue b := List.flatMap_append ..
theorem glue_spaced : ∀ l : List (List UInt8), l ≠ [] → 32 :: joinB [32] l = glue l
  | [], h => absurd rfl h
  | [x], _ => by simp [joinB, glue]
  | x :: y :: r, _ => by
    have ih := glue_spaced (y :: r) (by simp)
    unfold joinB
    rw [show glue (x :: y :: r) = (32 :: x) ++ glue (y :: r) from rfl, ← ih]
    simp
theorem spaced_join : ∀ l : List (List UInt8), spaced l = joinB [32] l
  | [] => rfl
  | [x] => rfl
  | x :: y :: r => by
    show x ++ (32 :: spaced (y :: r)) = joinB [32] (x :: y :: r)
    rw [spaced_join (y :: r)]
    show x ++ 32 :: joinB [32] (y :: r) = x ++ [32] ++ joinB [32] (y :: r)
    rw [List.append_assoc]
    rfl
theorem spaced_of_glue {ts ws : List (List UInt8)} (h : glue ts = glue ws) (ht : ts ≠ []) (hw : ws ≠ []) : joinB [32] ts = spaced ws := by
  have a := glue_spaced ts ht
  have b := glue_spaced ws hw
  rw [spaced_join]
  rw [h, ← b] at a
  injection a
theorem dec3 (n : Nat) (h : n < 256) : (toString (n : Int) : Str) = tx (number3 n) := by
  have z : ∀ n : Fin 256, (toString (n.val : Int) : Str) = tx (number3 n.val) := by decide +kernel
  exact z ⟨n, h⟩
theorem pe_joinK {X : Cx} {K : PySem.W.Frag} {o e : Expr} {to te : TE} {apos pos : Pos} (hK : X.K = K) (ho : PE X o to) (he : PE X e te) (hs : starEach [e] X.env = [(false, eval e X.env)] := by rfl) (hbase : attributeBase o "join" X.env (eval o X.env) = eval o X.env := by rfl) (hline : (apos.endLine == pos.line) = true := by rfl) :
    PE X (.Call (.Attribute o "join" apos) [e] [] pos) (tM1 (fun x xs H Q => ∃ a p, ∃ ys : List Str, x = .str a ∧ xs = [.ref p] ∧ (SqL K H p (ys.map V.str) ∨ SqT K H p (ys.map V.str)) ∧
      (ys.map (·.length)).sum + ys.length * a.length ≤ 16777216 ∧ Q (.str (Txt.join a ys)) H) to te) := by
  subst hK
  exact pe_join ho he hs hbase hline
end Hc

/-! ### P. tokens by places -/
namespace Hc

open Sh ShMarsh ShBlazon
theorem tw_len (p : UInt8 → Bool) (l : List UInt8) : (l.takeWhile p).length ≤ l.length := (List.takeWhile_prefix p).length_le
theorem one_step {p : Nat} {b : List UInt8} (h : ¬ 3 ≤ (oneToken p b).1.kind) : 1 ≤ (oneToken p b).2 ∧ (oneToken p b).2 ≤ b.length := by
  cases b with
  | nil => exact absurd (by show 3 ≤ 3; decide) h
  | cons c r =>
    unfold oneToken at h ⊢
    dsimp only at h ⊢
    by_cases c1 : isLetter c = true
    · rw [if_pos c1] at h ⊢
      dsimp only
      rw [List.takeWhile_cons_of_pos c1]
      have := tw_len isLetter r
      simp only [List.length_cons]
      omega
    · rw [if_neg c1] at h ⊢
      by_cases c2 : isDigit c = true
      · rw [if_pos c2] at h ⊢
        by_cases c3 : c ≠ 48 ∧ valueOf ((c :: r).takeWhile isDigit) < 1000
        · rw [if_pos c3] at h ⊢
          dsimp only
          rw [List.takeWhile_cons_of_pos c2]
          have := tw_len isDigit r
          simp only [List.length_cons]
          omega
        · rw [if_neg c3] at h
          exact absurd (by show 3 ≤ 5; decide) h
      · rw [if_neg c2] at h ⊢
        by_cases c3 : c = 44
        · rw [if_pos c3] at h ⊢
          dsimp only
          simp only [List.length_cons]
          omega
        · rw [if_neg c3] at h
          exact absurd (by show 3 ≤ 4; decide) h
theorem tok_fuel : ∀ (f g p : Nat) (b : List UInt8), b.length < f → b.length < g → tokensFrom f p b = tokensFrom g p b
  | 0, _, _, _, h, _ => absurd h (Nat.not_lt_zero _)
  | _ + 1, 0, _, _, _, h => absurd h (Nat.not_lt_zero _)
  | f + 1, g + 1, p, b, hf, hg => by
    unfold tokensFrom
    dsimp only
    by_cases h : 3 ≤ (oneToken (p + (b.takeWhile isBlank).length) (b.drop (b.takeWhile isBlank).length)).1.kind
    · rw [if_pos h, if_pos h]
    · rw [if_neg h, if_neg h]
      obtain ⟨h1, h2⟩ := one_step h
      have hk := tw_len isBlank b
      rw [List.length_drop] at h2
      rw [tok_fuel f g _ _ (by rw [List.length_drop]; omega) (by rw [List.length_drop]; omega)]
/-- the tokens of b from place q on -/
def Stt (b : List UInt8) (q : Nat) : ShBlazon.St := tokensFrom (b.length - q + 1) q (b.drop q)
def blanks (b : List UInt8) (q : Nat) : Nat := ((b.drop q).takeWhile isBlank).length
theorem stt_open {b : List UInt8} {q : Nat} (hq : q ≤ b.length) : Stt b q = (oneToken (q + blanks b q) (b.drop (q + blanks b q))).1 :: (if 3 ≤ (oneToken (q + blanks b q) (b.drop (q + blanks b q))).1.kind then [] else Stt b (q + blanks b q + (oneToken (q + blanks b q) (b.drop (q + blanks b q))).2)) := by
  have hk : blanks b q ≤ b.length - q := by
    have := tw_len isBlank (b.drop q)
    rw [List.length_drop] at this
    exact this
  show tokensFrom (b.length - q + 1) q (b.drop q) = _
  unfold tokensFrom
  dsimp only
  have ek : ((b.drop q).takeWhile isBlank).length = blanks b q := rfl
  rw [ek, List.drop_drop]
  by_cases h : 3 ≤ (oneToken (q + blanks b q) (b.drop (q + blanks b q))).1.kind
  · rw [if_pos h, if_pos h]
  · rw [if_neg h, if_neg h]
    obtain ⟨h1, h2⟩ := one_step h
    rw [List.length_drop] at h2
    unfold Stt
    rw [List.drop_drop]
    rw [tok_fuel (b.length - q) (b.length - (q + blanks b q + (oneToken (q + blanks b q) (b.drop (q + blanks b q))).2) + 1) _ _ (by rw [List.length_drop]; show b.length - (q + (blanks b q + _)) < _; omega) (by rw [List.length_drop]; show b.length - (q + (blanks b q + _)) < _; omega)]
    show _ :: tokensFrom _ _ (b.drop (q + (blanks b q + _))) = _
    rw [← Nat.add_assoc]
theorem stt_tokens (b : List UInt8) : tokensOf b = Stt b 0 := by
  unfold tokensOf Stt
  rw [List.drop_zero, Nat.sub_zero]
end Hc

/-! ### Q. readings of words: what the program's own steps amount to -/
namespace Hc
open Sh ShMarsh ShBlazon
def tokP (b : List UInt8) (q : Nat) : Token × Nat := oneToken (q + blanks b q) (b.drop (q + blanks b q))
/-- the place behind the token at q -/
def nxt (b : List UInt8) (q : Nat) : Nat := q + blanks b q + (tokP b q).2
theorem blanks_le {b : List UInt8} {q : Nat} (hq : q ≤ b.length) : q + blanks b q ≤ b.length := by
  have := tw_len isBlank (b.drop q)
  rw [List.length_drop] at this
  show q + ((b.drop q).takeWhile isBlank).length ≤ b.length
  omega
section
variable {b : List UInt8} {q : Nat} (hq : q ≤ b.length)
include hq
theorem stt_kind : kindOf (Stt b q) = (tokP b q).1.kind := by rw [stt_open hq]; rfl
theorem stt_word : wordOf (Stt b q) = (tokP b q).1.bytes := by rw [stt_open hq]; rfl
theorem stt_num : numOf (Stt b q) = (tokP b q).1.num := by rw [stt_open hq]; rfl
theorem one_at (p : Nat) (b : List UInt8) : (oneToken p b).1.at_ = p := by
  cases b with
  | nil => rfl
  | cons c r =>
    unfold oneToken
    dsimp only
    split
    · rfl
    · split
      · split <;> rfl
      · split <;> rfl
theorem stt_place : place (Stt b q) = q + blanks b q := by
  rw [stt_open hq]
  exact one_at hq _ _
theorem stt_drop (hk : kindOf (Stt b q) ≤ 2) : (Stt b q).drop 1 = Stt b (nxt b q) ∧ q < nxt b q ∧ nxt b q ≤ b.length := by
  rw [stt_kind hq] at hk
  have hk' : ¬ 3 ≤ (oneToken (q + blanks b q) (b.drop (q + blanks b q))).1.kind := by
    have : (oneToken (q + blanks b q) (b.drop (q + blanks b q))).1.kind ≤ 2 := hk
    omega
  have h1 := one_step hk'
  rw [List.length_drop] at h1
  have h2 := blanks_le hq
  refine ⟨?_, ?_, ?_⟩
  · rw [stt_open hq, if_neg hk']
    rfl
  · unfold nxt tokP
    omega
  · unfold nxt tokP
    omega
end
/-- a token that is a word has letters alone, one at least -/
def OkS (s : ShBlazon.St) : Prop := kindOf s = 0 → wordOf s ≠ [] ∧ 32 ∉ wordOf s
theorem takeWhile_all {p : UInt8 → Bool} : ∀ {l : List UInt8} {c : UInt8}, c ∈ l.takeWhile p → p c = true
  | [], _, h => by cases h
  | x :: l, c, h => by
    by_cases hx : p x = true
    · rw [List.takeWhile_cons_of_pos hx] at h
      rcases List.mem_cons.mp h with rfl | h
      · exact hx
      · exact takeWhile_all h
    · rw [List.takeWhile_cons_of_neg hx] at h
      cases h
theorem one_word {p : Nat} {b : List UInt8} (h : (oneToken p b).1.kind = 0) : ∃ c r, b = c :: r ∧ isLetter c = true ∧ (oneToken p b) = (⟨p, 0, b.takeWhile isLetter, 0⟩, (b.takeWhile isLetter).length) := by
  cases b with
  | nil => cases h
  | cons c r =>
    refine ⟨c, r, rfl, ?_⟩
    unfold oneToken at h ⊢
    dsimp only at h ⊢
    by_cases c1 : isLetter c = true
    · rw [if_pos c1]
      exact ⟨c1, rfl⟩
    · rw [if_neg c1] at h
      split at h
      · split at h <;> cases h
      · split at h <;> cases h
theorem ok_stt {b : List UInt8} {q : Nat} (hq : q ≤ b.length) : OkS (Stt b q) := fun h => by
  rw [stt_kind hq] at h
  rw [stt_word hq]
  obtain ⟨c, r, e1, e2, e3⟩ := one_word h
  unfold tokP
  rw [e3]
  dsimp only
  refine ⟨?_, fun z => ?_⟩
  · rw [e1, List.takeWhile_cons_of_pos e2]
    simp
  · have := takeWhile_all z
    revert this
    decide
/-! #### words by tables -/
theorem find_none {l : List (List UInt8)} {w : List UInt8} (h : w ∉ l) : l.findIdx? (fun x => x == w) = none := by
  rw [List.findIdx?_eq_none_iff]
  intro x hx
  rw [beq_eq_false_iff_ne]
  intro z
  exact h (z ▸ hx)
theorem find_get {l : List (List UInt8)} {w : List UInt8} {k : Nat} (h : l.findIdx? (fun x => x == w) = some k) : k < l.length ∧ l[k]? = some w ∧ ∀ m, m < k → l[m]? ≠ some w := by
  rw [List.findIdx?_eq_some_iff_getElem] at h
  obtain ⟨h1, h2, h3⟩ := h
  refine ⟨h1, ?_, fun m hm => ?_⟩
  · rw [List.getElem?_eq_getElem h1, eq_of_beq h2]
  · have := h3 m hm
    intro z
    rw [List.getElem?_eq_getElem (by omega)] at z
    injection z with z
    rw [z] at this
    simp at this
theorem find_some {l : List (List UInt8)} {w : List UInt8} (h : w ∈ l) : ∃ k, l.findIdx? (fun x => x == w) = some k := by
  cases q : l.findIdx? (fun x => x == w) with
  | some k => exact ⟨k, rfl⟩
  | none =>
    rw [List.findIdx?_eq_none_iff] at q
    have := q w h
    simp at this
/-- the words of T, numbered by L, are those of l -/
def Tab (T L l : List (List UInt8)) : Prop := (∀ w ∈ T, 32 ∈ w ∨ (w ∈ L ∧ l.findIdx? (fun x => x == w) = L.findIdx? (fun x => x == w))) ∧ ∀ x ∈ l, x ∈ T ∨ x = []
instance {T L l : List (List UInt8)} : Decidable (Tab T L l) := by unfold Tab; infer_instance
theorem tab_no {T L l : List (List UInt8)} {s : ShBlazon.St} (h : Tab T L l) (ok : OkS s) (hn : ¬ (kindOf s = 0 ∧ wordOf s ∈ T)) : look l s = none := by
  unfold look
  by_cases hk : kindOf s = 0
  · rw [if_pos hk]
    refine find_none fun z => ?_
    rcases h.2 _ z with z | z
    · exact hn ⟨hk, z⟩
    · exact (ok hk).1 z
  · rw [if_neg hk]
theorem tab_yes {T L l : List (List UInt8)} {s : ShBlazon.St} (h : Tab T L l) (ok : OkS s) (hy : kindOf s = 0 ∧ wordOf s ∈ T) : ∃ k, look l s = some k ∧ k < L.length ∧ L[k]? = some (wordOf s) ∧ ∀ m, m < k → L[m]? ≠ some (wordOf s) := by
  obtain ⟨hk, hw⟩ := hy
  rcases h.1 _ hw with z | ⟨z1, z2⟩
  · exact absurd z (ok hk).2
  · obtain ⟨k, ek⟩ := find_some z1
    refine ⟨k, ?_, find_get ek⟩
    unfold look
    rw [if_pos hk, z2, ek]
/-- the program's take -/
def takeE (T : List (List UInt8)) (s : ShBlazon.St) : Except ShBlazon.Fault ((List UInt8 × Nat) × ShBlazon.St) := if kindOf s = 0 ∧ wordOf s ∈ T then .ok ((wordOf s, place s), s.drop 1) else .error (wanted s)
theorem takeE_err {T L l : List (List UInt8)} {s : ShBlazon.St} {e : ShBlazon.Fault} (h : Tab T L l) (ok : OkS s) (he : takeE T s = .error e) : eat l s = .error e := by
  unfold takeE at he
  by_cases c : kindOf s = 0 ∧ wordOf s ∈ T
  · rw [if_pos c] at he
    cases he
  · rw [if_neg c] at he
    cases he
    unfold eat
    rw [tab_no h ok c]
theorem takeE_ok {T L l : List (List UInt8)} {s s' : ShBlazon.St} {x : List UInt8 × Nat} (h : Tab T L l) (ok : OkS s) (he : takeE T s = .ok (x, s')) :
    ∃ k, eat l s = .ok (k, s') ∧ look l s = some k ∧ k < L.length ∧ L[k]? = some x.1 ∧ (∀ m, m < k → L[m]? ≠ some x.1) ∧ x.2 = place s ∧ x.1 = wordOf s ∧ s' = s.drop 1 ∧ kindOf s = 0 := by
  unfold takeE at he
  by_cases c : kindOf s = 0 ∧ wordOf s ∈ T
  · rw [if_pos c] at he
    cases he
    obtain ⟨k, h1, h2, h3, h4⟩ := tab_yes h ok c
    refine ⟨k, ?_, h1, h2, h3, h4, rfl, rfl, rfl, c.1⟩
    unfold eat
    rw [h1]
  · rw [if_neg c] at he
    cases he
/-- one word alone -/
theorem word_iff {w : String} {s : ShBlazon.St} : isWord s w = true ↔ kindOf s = 0 ∧ wordOf s ∈ [ascii w] := by
  unfold isWord
  rw [Bool.and_eq_true, beq_iff_eq, beq_iff_eq, List.mem_singleton]
theorem word_false {w : String} {s : ShBlazon.St} (h : ¬ (kindOf s = 0 ∧ wordOf s ∈ [ascii w])) : isWord s w = false := by
  cases q : isWord s w with
  | false => rfl
  | true => exact absurd (word_iff.mp q) h
theorem takeW_err {w : String} {s : ShBlazon.St} {e : ShBlazon.Fault} (he : takeE [ascii w] s = .error e) : eatWord w s = .error e := by
  unfold takeE at he
  unfold eatWord
  by_cases c : kindOf s = 0 ∧ wordOf s ∈ [ascii w]
  · rw [if_pos c] at he
    cases he
  · rw [if_neg c] at he
    cases he
    rw [word_false c]
    rfl
theorem takeW_ok {w : String} {s s' : ShBlazon.St} {x : List UInt8 × Nat} (he : takeE [ascii w] s = .ok (x, s')) : eatWord w s = .ok s' ∧ s' = s.drop 1 := by
  unfold takeE at he
  unfold eatWord
  by_cases c : kindOf s = 0 ∧ wordOf s ∈ [ascii w]
  · rw [if_pos c] at he
    cases he
    rw [word_iff.mpr c]
    exact ⟨rfl, rfl⟩
  · rw [if_neg c] at he
    cases he
/-! #### a token that can't be: the next duty tells it -/
section
variable {s : ShBlazon.St} (h : kindOf s ≠ 0)
include h
theorem bad_look {l : List (List UInt8)} : look l s = none := by unfold look; rw [if_neg h]
theorem bad_eat {l : List (List UInt8)} : eat l s = .error (wanted s) := by unfold eat; rw [bad_look h]
theorem bad_word {w : String} : isWord s w = false := word_false fun z => h z.1
theorem bad_eatWord {w : String} : eatWord w s = .error (wanted s) := by unfold eatWord; rw [bad_word h]; rfl
theorem bad_line : lineAt s = (0, s) := by unfold lineAt; rw [bad_look h]
theorem bad_sin {b k : Nat} : sinister b k s = (k, s) := by unfold sinister; rw [if_neg (fun z => by rw [bad_word h] at z; exact Bool.noConfusion z.2)]
theorem bad_two : ShBlazon.twoAt s = .error (wanted s) := by unfold ShBlazon.twoAt; rw [bad_eat h]
theorem bad_pieces : piecesAt s = .error (wanted s) := by unfold piecesAt; rw [bad_eatWord h]
theorem bad_parted {d : Nat} : partedAt d s = .error (wanted s) := by unfold partedAt; rw [bad_line h, bad_two h]
theorem bad_varied {v : Nat} : variedAt v s = .error (wanted s) := by unfold variedAt; rw [bad_pieces h]
theorem bad_field : ShBlazon.fieldAt s = .error (wanted s) := by
  unfold ShBlazon.fieldAt
  rw [bad_look h]
  dsimp only
  rw [bad_word h, bad_word h, bad_word h, bad_eat h]
  rfl
theorem bad_fill {f : Field} : ShBlazon.fillAt f s = .error (wanted s) := by
  unfold ShBlazon.fillAt
  rw [bad_word h, bad_field h]
  rfl
theorem bad_manner : mannerAt s = .ok (0, s) := by unfold mannerAt; rw [bad_word h]; rfl
theorem bad_size : sizeAt s = (3, s) := by unfold sizeAt; rw [bad_look h]
end
/-! #### what the program raises at once -/
/-- a line, perhaps -/
def lineE (s : ShBlazon.St) : Except ShBlazon.Fault (Nat × ShBlazon.St) := if 4 ≤ kindOf s then .error (wanted s) else .ok (lineAt s)
/-- sinister behind bend, by the words' numbers -/
def sinE (bend k : Nat) (s : ShBlazon.St) : Except ShBlazon.Fault (Nat × ShBlazon.St) := if k = bend ∧ 4 ≤ kindOf s then .error (wanted s) else .ok (sinister bend k s)
def manE (s : ShBlazon.St) : Except ShBlazon.Fault (Nat × ShBlazon.St) :=
  if 4 ≤ kindOf s then .error (wanted s)
  else if isWord s "in" = true then (match eat MANNERWORDS (s.drop 1) with
      | .error e => .error e
      | .ok m => sinE 3 m.1 m.2)
  else .ok (0, s)
theorem lineE_err {s : ShBlazon.St} {e : ShBlazon.Fault} (h : lineE s = .error e) : kindOf s ≠ 0 ∧ e = wanted s ∧ lineAt s = (0, s) := by
  unfold lineE at h
  by_cases c : 4 ≤ kindOf s
  · rw [if_pos c] at h
    cases h
    have c' : kindOf s ≠ 0 := by omega
    exact ⟨c', rfl, bad_line c'⟩
  · rw [if_neg c] at h
    cases h
theorem lineE_ok {s : ShBlazon.St} {x : Nat × ShBlazon.St} (h : lineE s = .ok x) : lineAt s = x := by
  unfold lineE at h
  by_cases c : 4 ≤ kindOf s
  · rw [if_pos c] at h
    cases h
  · rw [if_neg c] at h
    cases h
    rfl
theorem sinE_err {b k : Nat} {s : ShBlazon.St} {e : ShBlazon.Fault} (h : sinE b k s = .error e) : kindOf s ≠ 0 ∧ e = wanted s ∧ sinister b k s = (k, s) := by
  unfold sinE at h
  by_cases c : k = b ∧ 4 ≤ kindOf s
  · rw [if_pos c] at h
    cases h
    have c' : kindOf s ≠ 0 := by omega
    exact ⟨c', rfl, bad_sin c'⟩
  · rw [if_neg c] at h
    cases h
theorem sinE_ok {b k : Nat} {s : ShBlazon.St} {x : Nat × ShBlazon.St} (h : sinE b k s = .ok x) : sinister b k s = x := by
  unfold sinE at h
  by_cases c : k = b ∧ 4 ≤ kindOf s
  · rw [if_pos c] at h
    cases h
  · rw [if_neg c] at h
    cases h
    rfl
/-- a manner, then a fill -/
theorem manE_err {s : ShBlazon.St} {e : ShBlazon.Fault} (h : manE s = .error e) (f : Field) : (match mannerAt s with
    | .error e => .error e
    | .ok m => ShBlazon.fillAt f m.2 |>.map fun x => (m.1, x)) = Except.error (ε := ShBlazon.Fault) e := by
  unfold manE at h
  by_cases c : 4 ≤ kindOf s
  · rw [if_pos c] at h
    cases h
    have c' : kindOf s ≠ 0 := by omega
    rw [bad_manner c']
    dsimp only
    rw [bad_fill c']
    rfl
  · rw [if_neg c] at h
    unfold mannerAt
    by_cases c2 : isWord s "in" = true
    · rw [if_pos c2] at h
      rw [if_pos c2]
      cases q : eat MANNERWORDS (s.drop 1) with
      | error e2 =>
        rw [q] at h
        dsimp only at h
        cases h
        rfl
      | ok m =>
        rw [q] at h
        dsimp only at h
        obtain ⟨h1, h2, h3⟩ := sinE_err h
        dsimp only
        rw [h3]
        dsimp only
        rw [bad_fill h1, h2]
        rfl
    · rw [if_neg c2] at h
      cases h
theorem manE_ok {s : ShBlazon.St} {x : Nat × ShBlazon.St} (h : manE s = .ok x) : mannerAt s = .ok x := by
  unfold manE at h
  by_cases c : 4 ≤ kindOf s
  · rw [if_pos c] at h
    cases h
  · rw [if_neg c] at h
    unfold mannerAt
    by_cases c2 : isWord s "in" = true
    · rw [if_pos c2] at h
      rw [if_pos c2]
      cases q : eat MANNERWORDS (s.drop 1) with
      | error e2 =>
        rw [q] at h
        cases h
      | ok m =>
        rw [q] at h
        dsimp only at h
        dsimp only
        rw [sinE_ok h]
    · rw [if_neg c2] at h
      rw [if_neg c2]
      cases h
      rfl
/-! #### sinister behind a word -/
def sinW (w : List UInt8) (s : ShBlazon.St) : Except ShBlazon.Fault (List UInt8 × ShBlazon.St) :=
  if w = ascii "bend" ∨ w = ascii "bendy" then (if 4 ≤ kindOf s then .error (wanted s) else if isWord s "sinister" = true then .ok (w ++ ascii " sinister", s.drop 1) else .ok (w, s)) else .ok (w, s)
def SinTab (L : List (List UInt8)) (b : Nat) : Prop := L.Nodup ∧ (∀ k, k < L.length → (k = b ↔ (L.getD k [] = ascii "bend" ∨ L.getD k [] = ascii "bendy"))) ∧ L[b + 1]? = some (L.getD b [] ++ ascii " sinister")
instance {L : List (List UInt8)} {b : Nat} : Decidable (SinTab L b) := by unfold SinTab; infer_instance
theorem nodup_first {L : List (List UInt8)} (h : L.Nodup) {k : Nat} {u : List UInt8} (hk : L[k]? = some u) : ∀ m, m < k → L[m]? ≠ some u := fun m hm z => by
  have h1 := (List.getElem?_eq_some_iff.mp hk).1
  have h2 := (List.getElem?_eq_some_iff.mp z).1
  have := (List.nodup_iff_pairwise_ne.mp h)
  have y := List.pairwise_iff_getElem.mp this m k h2 h1 hm
  rw [(List.getElem?_eq_some_iff.mp hk).2, (List.getElem?_eq_some_iff.mp z).2] at y
  exact y rfl
section
variable {L : List (List UInt8)} {b k : Nat} {w : List UInt8} {s : ShBlazon.St} (T : SinTab L b) (hk : L[k]? = some w)
include T hk
theorem sin_key : k = b ↔ w = ascii "bend" ∨ w = ascii "bendy" := by
  have h1 := (List.getElem?_eq_some_iff.mp hk).1
  have z := T.2.1 k h1
  rw [List.getD_eq_getElem?_getD, hk] at z
  exact z
theorem sin_err {e : ShBlazon.Fault} (h : sinW w s = .error e) : sinE b k s = .error e := by
  have key := sin_key T hk
  unfold sinW at h
  unfold sinE
  by_cases c : w = ascii "bend" ∨ w = ascii "bendy"
  · rw [if_pos c] at h
    by_cases c2 : 4 ≤ kindOf s
    · rw [if_pos c2] at h
      rw [if_pos ⟨key.mpr c, c2⟩]
      cases h
      rfl
    · rw [if_neg c2] at h
      split at h <;> cases h
  · rw [if_neg c] at h
    cases h
theorem sin_ok {u : List UInt8} {s' : ShBlazon.St} (h : sinW w s = .ok (u, s')) : ∃ k', sinE b k s = .ok (k', s') ∧ L[k']? = some u ∧ ∀ m, m < k' → L[m]? ≠ some u := by
  have key := sin_key T hk
  unfold sinW at h
  unfold sinE sinister
  by_cases c : w = ascii "bend" ∨ w = ascii "bendy"
  · have e := key.mpr c
    rw [if_pos c] at h
    by_cases c2 : 4 ≤ kindOf s
    · rw [if_pos c2] at h
      cases h
    · rw [if_neg c2] at h
      rw [if_neg (fun z => c2 z.2)]
      by_cases c3 : isWord s "sinister" = true
      · rw [if_pos c3] at h
        rw [if_pos ⟨e, c3⟩]
        cases h
        have z := T.2.2
        rw [List.getD_eq_getElem?_getD, ← e, hk] at z
        exact ⟨k + 1, rfl, z, nodup_first T.1 z⟩
      · rw [if_neg c3] at h
        rw [if_neg (fun z => c3 z.2)]
        cases h
        exact ⟨k, rfl, hk, nodup_first T.1 hk⟩
  · have ne : ¬ k = b := fun z => c (key.mp z)
    rw [if_neg c] at h
    rw [if_neg (fun z => ne z.1), if_neg (fun z => ne z.1)]
    cases h
    exact ⟨k, rfl, hk, nodup_first T.1 hk⟩
end
end Hc

/-! ### R. blazons read: the reader in the heap, the promises -/
namespace Hc
open PySem PySem.Spec PyProof.Rows L2
open Sh ShMarsh ShBlazon
/-- a reader: its object, the bytes at c, of which those of b, from o on, are read -/
structure Rs where
  s : Addr
  dx : Addr
  c : Addr
  o : Nat
  b : List UInt8
  bs : List UInt8
def rdF (c : Addr) (k e : Nat) : List (Str × V) := [("some", .ref c), ("at", .int k), ("end", .int e)]
structure Rdr (K : PySem.W.Frag) (H : Hp) (R : Rs) (q : Nat) : Prop where
  ob : H R.s = some (.ins (He.ga K "Reader") R.dx (rdF R.c (R.o + q) (R.o + R.b.length)))
  sq : SqL K H R.c (R.bs.map bv)
  cut : (R.bs.take (R.o + R.b.length)).drop R.o = R.b
  fit : R.o + R.b.length ≤ R.bs.length
  le : q ≤ R.b.length
  big : R.bs.length ≤ 5000
theorem Rdr.same {K : PySem.W.Frag} {H H' : Hp} {R : Rs} {q : Nat} (S : Rdr K H R q) (e : Same H H') : Rdr K H' R q := ⟨e _ _ S.ob, e.seq S.sq, S.cut, S.fit, S.le, S.big⟩
theorem Rdr.move {K : PySem.W.Frag} {H H' : Hp} {R : Rs} {q q' : Nat} (S : Rdr K H R q) (e : Bt R.s H H') (ob : H' R.s = some (.ins (He.ga K "Reader") R.dx (rdF R.c (R.o + q') (R.o + R.b.length)))) (le : q' ≤ R.b.length) : Rdr K H' R q' :=
  ⟨ob, e.seq S.ob S.sq, S.cut, S.fit, le, S.big⟩
/-- the bytes from q on -/
theorem Rdr.rest {K : PySem.W.Frag} {H : Hp} {R : Rs} {q : Nat} (S : Rdr K H R q) (j : Nat) : (R.bs.take (R.o + R.b.length)).drop (R.o + j) = R.b.drop j := by
  rw [← S.cut, List.drop_drop, S.cut]
theorem Rdr.byte {K : PySem.W.Frag} {H : Hp} {R : Rs} {q : Nat} (S : Rdr K H R q) {j : Nat} (hj : j < R.b.length) : R.bs[R.o + j]? = some R.b[j] := by
  have z := S.rest j
  have y := congrArg (fun l : List UInt8 => l[0]?) z
  simp only [List.getElem?_drop, Nat.add_zero] at y
  rw [List.getElem?_take_of_lt (by omega), List.getElem?_eq_getElem hj] at y
  exact y
/-- the way out by a fault -/
def Fl (K : PySem.W.Frag) (R : Rs) (H : Hp) (E : XK) (e : ShBlazon.Fault) : Prop := ∀ (d : Addr) H', Bt R.s H H' → H' d = some (.xd [("place", .int ((R.o + e.2 : Nat) : Int)), ("kind", .int ((e.1 : Nat) : Int))]) → E (.ref (He.ga K "Fault")) (some d) H'
theorem Fl.bt {K : PySem.W.Frag} {R : Rs} {H H1 : Hp} {E : XK} {e : ShBlazon.Fault} (f : Fl K R H E e) (b : Bt R.s H H1) : Fl K R H1 E e := fun d H' b' hd => f d H' (b.trans b') hd
/-- a reading: the fault told, or the value that stands for what was read, new in the heap -/
structure RgP {α : Type} (K : PySem.W.Frag) (R : Rs) (g : ShBlazon.St → Except ShBlazon.Fault (α × ShBlazon.St)) (Is : Hp → V → α → Prop) (H : Hp) (q : Nat) (Q : VK) (E : XK) : Prop where
  err : ∀ e, g (Stt R.b q) = .error e → Fl K R H E e
  ok : ∀ a q', g (Stt R.b q) = .ok (a, Stt R.b q') → ∀ v H', Bt R.s H H' → Rdr K H' R q' → Is (Dn H H') v a → Q v H'
def spRg {ι α : Type} (K : PySem.W.Frag) (ws : ι → List V) (pre : ι → Rs → Nat → Hp → Prop) (g : ι → ShBlazon.St → Except ShBlazon.Fault (α × ShBlazon.St)) (Is : ι → Rs → Hp → V → α → Prop) : Sp := fun vs H Q E => ∃ (i : ι) (R : Rs) (q : Nat), vs = .ref R.s :: ws i ∧ pre i R q H ∧ Rdr K H R q ∧ RgP K R (g i) (Is i R) H q Q E
def IsIntR : Rs → Hp → V → Nat → Prop := fun _ _ v n => v = .int (n : Int)
/-- the promise of Fault's __init__ -/
def spErr2 (K : PySem.W.Frag) (x : Str) : Sp := fun vs H Q _ => ∃ (a : Addr) (v u : V), vs = [.ref a, v, u] ∧ H a = some (exo a (He.ga K x) none) ∧
  ∀ dx, H dx = none → dx ≠ a → ∀ H', H' = upd (upd (upd H dx (exd dx [("kind", v)])) a (exo a (He.ga K x) (some dx))) dx (exd dx [("place", u), ("kind", v)]) → Q .non H'
theorem raise2 {K : PySem.W.Frag} {x : Str} {H1 : Hp} {v u : V} {W : XK} (k : ∀ (d : Addr) H', Same H1 H' → H1 d = none → H' d = some (.xd [("place", u), ("kind", v)]) → W (.ref (He.ga K x)) (some d) H') :
    (fun (vs : List V) (H1 : Hp) => vs.length ≤ 1000 ∧ ∀ a, H1 a = none → spErr2 K x (.ref a :: (vs ++ [])) (upd H1 a (exo a (He.ga K x) none))
      (fun v H2 => v = .non ∧ ∃ (d : Addr) (fs : List (Str × V)), H2 a = some (exo a (He.ga K x) (some d)) ∧ H2 d = some (exd d fs) ∧ H1 d = none ∧ W (.ref (He.ga K x)) (some d) (upd (del H2 a) d (.xd fs))) (fun _ _ _ => False)) [v, u] H1 := by
  refine ⟨by show 2 ≤ 1000; decide, fun a ha => ⟨a, v, u, rfl, upd_same, fun dx hd ne H' e => ⟨rfl, dx, [("place", u), ("kind", v)], ?_, ?_, ?_, ?_⟩⟩⟩
  · rw [e, upd_ne (Ne.symm ne), upd_same]
  · rw [e, upd_same]
  · rw [upd_ne ne] at hd
    exact hd
  · have hd1 : H1 dx = none := by
      rw [upd_ne ne] at hd
      exact hd
    refine k dx _ (fun b o q => ?_) hd1 upd_same
    have nb : b ≠ dx := ne_of_none q hd1
    have na : b ≠ a := ne_of_none q ha
    rw [e, upd_ne nb, del_ne na, upd_ne nb, upd_ne na, upd_ne nb, upd_ne na]
    exact q
/-! #### tokens in the heap -/
def tokV (k : Nat) (w : List UInt8) (n : Nat) : V := if k = 0 then tv w else if k = 1 then .int (n : Int) else if k = 2 then .str "," else .str ""
def tokF (k : Nat) (v : V) (p e : Nat) : List (Str × V) := [("kind", .int (((k + 1 : Nat)) : Int)), ("value", v), ("place", .int ((p : Nat) : Int)), ("behind", .int ((e : Nat) : Int))]
/-- the promise of ahead -/
def spAhead (K : PySem.W.Frag) : Sp := fun vs H Q E => ∃ (R : Rs) (q : Nat), vs = [.ref R.s] ∧ Rdr K H R q ∧
  (4 ≤ kindOf (Stt R.b q) → Fl K R H E (wanted (Stt R.b q))) ∧
  (kindOf (Stt R.b q) ≤ 3 → ∀ x dx H', Same H H' → H x = none → H' x = some (.ins (He.ga K "Token") dx (tokF (kindOf (Stt R.b q)) (tokV (kindOf (Stt R.b q)) (wordOf (Stt R.b q)) (numOf (Stt R.b q))) (R.o + place (Stt R.b q)) (R.o + nxt R.b q))) → Q (.ref x) H')
/-- the promise of pass_token, where a token was looked at -/
def spPass (K : PySem.W.Frag) : Sp := fun vs H Q E => ∃ (R : Rs) (q : Nat), vs = [.ref R.s] ∧ Rdr K H R q ∧ kindOf (Stt R.b q) ≤ 2 ∧
  ∀ x dx q' H', (Stt R.b q).drop 1 = Stt R.b q' → q < q' → Bt R.s H H' → Rdr K H' R q' → H x = none → H' x = some (.ins (He.ga K "Token") dx (tokF (kindOf (Stt R.b q)) (tokV (kindOf (Stt R.b q)) (wordOf (Stt R.b q)) (numOf (Stt R.b q))) (R.o + place (Stt R.b q)) (R.o + q'))) → Q (.ref x) H'
def SqW (K : PySem.W.Frag) (H : Hp) (a : Addr) (T : List (List UInt8)) : Prop := SqL K H a (T.map tv) ∨ SqT K H a (T.map tv)
theorem sameT {K : PySem.W.Frag} {H H' : Hp} {a : Addr} {xs : List V} (e : Same H H') (h : SqT K H a xs) : SqT K H' a xs := by
  rcases h with (h | ⟨o, h⟩) | h
  · exact .inl (.inl (e _ _ h))
  · exact .inl (.inr ⟨o, e _ _ h⟩)
  · exact .inr h
theorem SqW.same {K : PySem.W.Frag} {H H' : Hp} {a : Addr} {T : List (List UInt8)} (e : Same H H') (h : SqW K H a T) : SqW K H' a T := h.elim (fun z => .inl (e.seq z)) fun z => .inr (sameT e z)
/-- the promise of is_next -/
def spNext (K : PySem.W.Frag) : Sp := fun vs H Q E => ∃ (R : Rs) (q : Nat) (a : Addr) (T : List (List UInt8)), vs = [.ref R.s, .ref a] ∧ Rdr K H R q ∧ SqW K H a T ∧
  (4 ≤ kindOf (Stt R.b q) → Fl K R H E (wanted (Stt R.b q))) ∧
  (kindOf (Stt R.b q) ≤ 3 → ∀ H', Same H H' → Q (.bl (decide (kindOf (Stt R.b q) = 0 ∧ wordOf (Stt R.b q) ∈ T))) H')
/-- the promise of want -/
def spWant (K : PySem.W.Frag) : Sp := fun vs H Q E => ∃ (R : Rs) (q : Nat) (g : Bool), vs = [.ref R.s, .bl g] ∧ Rdr K H R q ∧
  (g = false → Fl K R H E (wanted (Stt R.b q))) ∧ (g = true → ∀ H', Same H H' → Q .non H')
/-- a token that was taken: a word -/
def IsTok (K : PySem.W.Frag) (R : Rs) (e : Nat) : Hp → V → List UInt8 × Nat → Prop := fun D v x => ∃ a dx, v = .ref a ∧ D a = some (.ins (He.ga K "Token") dx (tokF 0 (tv x.1) (R.o + x.2) e))
/-- the promise of take -/
def spTake (K : PySem.W.Frag) : Sp := fun vs H Q E => ∃ (R : Rs) (q : Nat) (a : Addr) (T : List (List UInt8)), vs = [.ref R.s, .ref a] ∧ Rdr K H R q ∧ SqW K H a T ∧
  (∀ e, takeE T (Stt R.b q) = .error e → Fl K R H E e) ∧
  (∀ x q', takeE T (Stt R.b q) = .ok (x, Stt R.b q') → ∀ y dx H', Bt R.s H H' → Rdr K H' R q' → H y = none → H' y = some (.ins (He.ga K "Token") dx (tokF 0 (tv x.1) (R.o + x.2) (R.o + q'))) → Q (.ref y) H')
/-- the promise of with_sinister -/
abbrev spSin (K : PySem.W.Frag) : Sp := spRg (ι := List UInt8) K (fun w => [tv w]) (fun w _ _ _ => w.length ≤ 100) sinW (fun _ _ _ v u => v = tv u)
/-! #### the makers -/
def spI_Token (K : PySem.W.Frag) : Sp := fun vs H Q _ => ∃ (x dx : Addr) (a b c d : V), vs = [.ref x, a, b, c, d] ∧ H x = some (.ins (He.ga K "Token") dx []) ∧ ∀ H', Bt x H H' → H' x = some (.ins (He.ga K "Token") dx [("kind", a), ("value", b), ("place", c), ("behind", d)]) → Q .non H'
def spI_Reader (K : PySem.W.Frag) : Sp := fun vs H Q _ => ∃ (x dx : Addr) (a b c : V), vs = [.ref x, a, b, c] ∧ H x = some (.ins (He.ga K "Reader") dx []) ∧ ∀ H', Bt x H H' → H' x = some (.ins (He.ga K "Reader") dx [("some", a), ("at", b), ("end", c)]) → Q .non H'
section
variable {K : PySem.W.Frag} {H1 : Hp} {Q : Addr → Hp → Prop} {E : XK}
theorem mk_Token {a b c d : V} (k : ∀ x dx H', H1 x = none → Same H1 H' → H' x = some (.ins (He.ga K "Token") dx [("kind", a), ("value", b), ("place", c), ("behind", d)]) → Q x H') :
    ∀ x dx, H1 x = none → H1 dx = none → dx ≠ x → spI_Token K (.ref x :: ([a, b, c, d] ++ [])) (upd (upd H1 dx (.own x)) x (.ins (He.ga K "Token") dx [])) (fun v H2 => v = .non ∧ Q x H2) E :=
  fun x dx nx nd ne => ⟨x, dx, a, b, c, d, rfl, upd_same, fun H' e h => ⟨rfl, k x dx H' nx (Same.made2 nx nd e) h⟩⟩
theorem mk_Reader {a b c : V} (k : ∀ x dx H', H1 x = none → Same H1 H' → H' x = some (.ins (He.ga K "Reader") dx [("some", a), ("at", b), ("end", c)]) → Q x H') :
    ∀ x dx, H1 x = none → H1 dx = none → dx ≠ x → spI_Reader K (.ref x :: ([a, b, c] ++ [])) (upd (upd H1 dx (.own x)) x (.ins (He.ga K "Reader") dx [])) (fun v H2 => v = .non ∧ Q x H2) E :=
  fun x dx nx nd ne => ⟨x, dx, a, b, c, rfl, upd_same, fun H' e h => ⟨rfl, k x dx H' nx (Same.made2 nx nd e) h⟩⟩
end
/-- the fault told where nothing but new things came -/
theorem Fl.go {K : PySem.W.Frag} {R : Rs} {H : Hp} {E : XK} {e : ShBlazon.Fault} (f : Fl K R H E e) {d : Addr} {H' : Hp} (sa : Same H H') (hd : H' d = some (.xd [("place", .int ((R.o + e.2 : Nat) : Int)), ("kind", .int ((e.1 : Nat) : Int))])) : E (.ref (He.ga K "Fault")) (some d) H' := f d H' (.same sa) hd
/-- a frozen tuple that is one indeed -/
def TupD (K : PySem.W.Frag) (p : Addr) : Prop := ∃ o, K.lookup p = some o ∧ o.cls = .type "tuple" ∧ o.dict = none
def tupDB (K : PySem.W.Frag) (p : Addr) : Bool := match K.lookup p with
  | some ⟨.type c, none, _, _⟩ => decide (c = "tuple")
  | _ => false
theorem tupDB_ok {K : PySem.W.Frag} {p : Addr} (h : tupDB K p = true) : TupD K p := by
  unfold tupDB at h
  split at h
  · rename_i c dt sl e
    exact ⟨_, e, congrArg Value.type (of_decide_eq_true h), rfl⟩
  · cases h
theorem TupD.ty {K : PySem.W.Frag} {p : Addr} {H : Hp} (h : TupD K p) : tyV K "tuple" (.ref p) H := .inr (.inl ⟨rfl, h⟩)
end Hc

/-! #### tuple(a dict of the top) -/
namespace Hc
open PySem PySem.Spec PyProof.Rows L2
section
variable {prog : Program} {w : World} {A : Around} {E : Value → Shared → Prop} {s : Shared} {d : Addr} {o : Obj} {es : Array DictEntry} {ep : Nat}
theorem collect_kd {Q : List Value → Shared → Prop} (hh : A.handled = none) (lo : (d == sysModules) = false) (hd : s.heap.get? d = some o) (hx : o.ExactDict) (hdt : o.data = .dict es ep) (hlen : es.size ≤ sizeLine)
    (hQ : ∀ (h' : Heap) (tk : Nat) (acc : Array Value), (∀ b o, s.heap.get? b = some o → h'.get? b = some o) → ItemsOf (fun i v => ∃ en : DictEntry, es[i]? = some en ∧ v = en.key) acc es.size → Q acc.toList { s with heap := h', toks := tk }) :
    wpAny (model prog w) A (collect (.ref d)) Q E s := by
  unfold collect
  refine wpAny_bind (wpAny_runValue (codeAny_builtin F.entry_proto_collect ?_))
  rw [Around.under_plainId F.plain_proto_collect _]
  show wpAny _ A.in1 (newList [] >>= fun l => again (.builtin "list.__iadd__" ⟨[l, .ref d], []⟩)) _ _ s
  refine wpAny_bind (wpAny_newObj_type ?_)
  refine wpAny_pure ⟨plainId_quiet F.plain_list_iadd _, codeAny_builtin F.entry_list_iadd ?_⟩
  rw [Around.under_plainId F.plain_list_iadd _]
  show wpAny _ A.in1 (Builtin.List.listExtendWith (.ref s.heap.objs.size) (.ref d) (.ref s.heap.objs.size)) _ _ _
  have hS : (s.heap.push { cls := .type "list", data := .seq ([] : List Value).toArray }).get? s.heap.objs.size = some { cls := .type "list", data := .seq #[] 0 } := Heap.get?_push_size _ rfl
  have hlt : d < s.heap.objs.size := Heap.lt_size hd
  have hne : s.heap.objs.size ≠ d := Nat.ne_of_gt hlt
  refine wpAny_mono (PySem.W.kdl_extend (A := A) (R := fun rr s' => rr = .ok (.ret (.ref s.heap.objs.size)) ∧ ∃ (h' : Heap) (tk : Nat) (acc : Array Value) (c' : Nat), s' = { s with heap := h', toks := tk } ∧
      (∀ b o, s.heap.get? b = some o → h'.get? b = some o) ∧ h'.get? s.heap.objs.size = some { cls := .type "list", dict := none, data := .seq acc c', slots := #[] } ∧ ItemsOf (fun i v => ∃ en : DictEntry, es[i]? = some en ∧ v = en.key) acc es.size)
    (s := { s with heap := s.heap.push { cls := .type "list", data := .seq ([] : List Value).toArray } }) (kdl_raw lo hx hdt) hh (Heap.get?_push_of_some _ hd) s.heap.objs.size hne hne (.ref s.heap.objs.size) 0 hS
    (fun h' tk acc c' hk e hi => ⟨rfl, h', tk, acc, c', rfl, fun b o q => hk b o (Nat.ne_of_lt (Heap.lt_size q)) (Heap.get?_push_of_some _ q), e, hi⟩) hlen) (fun fin s' h => ?_) (fun e s' h => ?_)
  · cases fin with
    | done f =>
      obtain ⟨e, h', tk, acc, c', rfl, hk, hS', hi⟩ := h
      cases e
      show wpAny _ A (load s.heap.objs.size >>= _) _ _ _
      exact wpAny_bind (wpAny_load hS' (wpAny_pure (hQ h' tk acc hk hi)))
    | again c' =>
      refine ⟨h.1, codeAny_mono h.2 fun rr s'' hr' => ?_⟩
      obtain ⟨rfl, h', tk, acc, c', rfl, hk, hS', hi⟩ := hr'
      show wpAny _ A (load s.heap.objs.size >>= _) _ _ _
      exact wpAny_bind (wpAny_load hS' (wpAny_pure (hQ h' tk acc hk hi)))
  · exact absurd h.1 (by simp)
theorem code_tuple_kd {Q₁ : Value → Shared → Prop} (hh : A.handled = none) (lo : (d == sysModules) = false) (hd : s.heap.get? d = some o) (hx : o.ExactDict) (hdt : o.data = .dict es ep) (hlen : es.size ≤ sizeLine)
    (h : ∀ (h' : Heap) (tk : Nat) (acc : Array Value), (∀ b o, s.heap.get? b = some o → h'.get? b = some o) → ItemsOf (fun i v => ∃ en : DictEntry, es[i]? = some en ∧ v = en.key) acc es.size →
      Q₁ (.ref h'.objs.size) { s with heap := h'.push { cls := .type "tuple", data := .seq acc }, toks := tk }) :
    codeAny (model prog w) A (.call (.builtin "tuple.__new__") ⟨[.type "tuple", .ref d], []⟩) (wants Q₁ E) s := by
  refine codeAny_of_tree ?_
  show wpAny _ A.in1 (do checkBuiltinCall "tuple.__new__" ⟨[.type "tuple", .ref d], []⟩; again (.builtin "tuple.__new__" ⟨[.type "tuple", .ref d], []⟩)) _ _ s
  refine wpAny_bind (wpAny_of_eq (F.newCall_tuple_1 _) (wpAny_pure ⟨plainId_quiet F.plain_tuple_new _, codeAny_builtin F.entry_tuple_new ?_⟩))
  rw [Around.under_plainId F.plain_tuple_new _]
  have hsub := sub_tuple_self
  have hinit := init_tuple_lookup
  have hmh := madeHere_tuple
  have hTI : s.TypeIs (.ref d) "dict" := ⟨_, hd, hx.1⟩
  have hh1 : A.in1.handled = none := hh
  wp_walk using wpAny_typeOf hTI, collect_kd (A := A.in1) hh1 lo hd hx hdt hlen
  intro h' tk acc hk hacc
  show wpAny _ _ (Builtin.Tuple.tupleExact acc.toList.toArray >>= fun v => ret v) _ _ _
  unfold Builtin.Tuple.tupleExact
  refine wpAny_bind (wpAny_newObj_type ?_ (by show acc.toList.toArray.size ≤ sizeLine; simp only [Array.toArray_toList]; rw [hacc.1]; exact hlen))
  refine wpAny_pure ?_
  have e : acc.toList.toArray = acc := by simp
  rw [e]
  exact h h' tk acc hk hacc
theorem call_tuple_kd {Q : Value → Shared → Prop} (hh : A.handled = none) (lo : (d == sysModules) = false) (hd : s.heap.get? d = some o) (hx : o.ExactDict) (hdt : o.data = .dict es ep) (hlen : es.size ≤ sizeLine)
    (hQ : ∀ (h' : Heap) (tk : Nat) (acc : Array Value), (∀ b o, s.heap.get? b = some o → h'.get? b = some o) → ItemsOf (fun i v => ∃ en : DictEntry, es[i]? = some en ∧ v = en.key) acc es.size →
      Q (.ref h'.objs.size) { s with heap := h'.push { cls := .type "tuple", data := .seq acc }, toks := tk }) :
    wpAny (model prog w) A (call (.type "tuple") [.ref d]) Q E s := by
  refine callType_codes (Q₁ := fun obj s₁ => s₁.TypeIs obj "tuple" ∧ Q obj s₁) F.called_tuple (F.typeCall_tuple_1 _) F.entry_object_init
    (code_tuple_kd (A := A.in1) hh lo hd hx hdt hlen fun h' tk acc hk hacc => ⟨⟨_, Heap.get?_push_size _ rfl, rfl⟩, hQ h' tk acc hk hacc⟩) fun obj s₁ h₁ => ?_
  exact ⟨h₁.1, F.args_object_init_2 obj _, object_init_meets F.called_tuple.init.lookup F.called_tuple.made (by decide) prog w A.in1 _ s₁ ⟨h₁.1, rfl, h₁.2⟩⟩
end
/-- the dict at d has these keys, in order -/
def keysB (K : PySem.W.Frag) (d : Addr) (ks : List Str) : Bool := match K.lookup d with
  | some ⟨.type c, none, .dict es _, sl⟩ => decide (c = "dict") && (decide (es.size = ks.length) && ((ks.zipIdx.all fun x => match es[x.2]? with
      | some en => (match en.key with
        | .str z _ => z == x.1
        | _ => false)
      | none => false) && sl.isEmpty))
  | _ => false
def KeysD (K : PySem.W.Frag) (w : World) (d : Addr) (ks : List Str) : Prop := (d == sysModules) = false ∧ ∃ (es : Array DictEntry) (n : Nat), K.lookup d = some ⟨.type "dict", none, .dict es n, #[]⟩ ∧ es.size = ks.length ∧ ∀ (i : Nat) (k : Str), ks[i]? = some k → ∃ en : DictEntry, es[i]? = some en ∧ ∃ t, en.key = .str k t
theorem keysB_ok {K : PySem.W.Frag} {w : World} {d : Addr} {ks : List Str} (h : keysB K d ks = true) (D : ∃ es n, KDict K w d es n) : KeysD K w d ks := by
  obtain ⟨es0, n0, D⟩ := D
  refine ⟨D.low, es0, n0, D.at_, ?_⟩
  unfold keysB at h
  rw [D.at_] at h
  simp only [Bool.and_eq_true, decide_eq_true_eq] at h
  obtain ⟨_, h1, h2, _⟩ := h
  refine ⟨h1, fun i k hk => ?_⟩
  have z := List.all_eq_true.mp h2 (k, i) (by rw [List.mem_iff_getElem?]; exact ⟨i, by simp [hk]⟩)
  dsimp only at z
  cases e : es0[i]? with
  | none => rw [e] at z; cases z
  | some en =>
    rw [e] at z
    dsimp only at z
    refine ⟨en, rfl, ?_⟩
    cases ek : en.key with
    | str x t =>
      rw [ek] at z
      exact ⟨t, by rw [eq_of_beq z]⟩
    | _ => rw [ek] at z; cases z
/-- tuple(d): its keys in a new tuple -/
def rTupKd (d : Addr) (ks : List Str) : V → Hp → VK → Prop := fun x H Q => x = .ref d ∧ ∀ q, H q = none → Q (.ref q) (upd H q (.tup (ks.map V.str)))
theorem pe_tupKd {X : Cx} {e : Expr} {ta : TE} {d : Addr} {ks : List Str} {p pos : Pos} (D : KeysD X.K X.w d ks) (hl : ks.length ≤ 1000) (hc : X.calm = true) (hg : Gl X "tuple") (hm : X.mg "tuple" = none) (ha : PE X e ta) (na : starEach [e] X.env = (false, eval e X.env) :: starEach [] X.env := by rfl) :
    PE X (.Call (.Name "tuple" p) [e] [] pos) (tThen ta (rTupKd d ks)) := by
  refine ⟨fun pins s σ H Q I h => ?_⟩
  refine Call_ (ld_blt I hg hm boot_tuple (PyProof.Rows.callWith_type1 (one_arg ha I h (fun v s2 x H2 I2 r q => ?_) na) na))
  obtain ⟨rfl, q⟩ := q
  obtain rfl : v = .ref d := r
  obtain ⟨lo, es, n, hlk, hsz, hks⟩ := D
  have hget : s2.heap.get? d = some ⟨.type "dict", none, .dict es n, #[]⟩ := I2.kIn _ _ hlk
  have big : ks.length ≤ sizeLine := Nat.le_trans hl (by decide)
  refine call_tuple_kd (I2.ok.hd hc) lo hget ⟨rfl, rfl, rfl⟩ rfl (by omega) fun h' tk acc hk hi => ?_
  have I3 : Inv X pins σ H2 { s2 with heap := h', toks := tk } := I2.kept hk
  refine ⟨.ref h'.objs.size, upd H2 h'.objs.size (.tup (ks.map V.str)), I3.laid (t' := tk) (fun c o e => Heap.get?_push_of_some _ e) (Nat.le_refl _) (show ObjOk X.prog X.w _ _ _ (.tup (ks.map V.str)) from ⟨?_, acc.toList, ?_, ?_⟩), rfl, q _ (I3.hok.fresh (Nat.le_refl _))⟩
  · rw [List.length_map]
    exact big
  · refine vals_of_at (by have z := hi.1; simp only [List.length_map, Array.length_toList]; omega) fun j y u h1 h2 => ?_
    rw [List.getElem?_map] at h1
    cases ek : ks[j]? with
    | none => rw [ek] at h1; cases h1
    | some k =>
      rw [ek] at h1
      injection h1 with h1
      subst h1
      obtain ⟨en, hen, t, ht⟩ := hks j k ek
      obtain ⟨en2, hen2, hv⟩ := hi.2 j u (by rw [← Array.getElem?_toList]; exact h2)
      rw [hen] at hen2
      injection hen2 with hen2
      subst hen2
      rw [hv, ht]
      exact ⟨t, rfl⟩
  · rw [Array.toArray_toList]
    exact IsTup.new _ _
end Hc

/-! ### T. the text by places, what the top has written -/
namespace Hc
open PySem PySem.Spec PyProof.Rows L2
def top (i : Nat) : Stmt := PySem.Challenge.pw_heraldcoats_s06_read.main.body.getD i (.Pass ⟨0, 0, 0, 0⟩)
abbrev s_Layer_init : Stmt := inClass (top 11) 0
abbrev n_Layer_init : List Str := ["self", "kind", "numbers", "fill"]
abbrev p_Layer_init : List Str := ["self", "kind", "numbers", "fill"]
theorem sc_Layer_init : FnScope n_Layer_init p_Layer_init (defScope s_Layer_init) := ⟨rfl, rfl, rfl, by decide +kernel, rfl, by decide +kernel, by decide +kernel⟩

abbrev s_Arms_init : Stmt := inClass (top 12) 0
abbrev n_Arms_init : List Str := ["self", "field"]
abbrev p_Arms_init : List Str := ["self", "field"]
theorem sc_Arms_init : FnScope n_Arms_init p_Arms_init (defScope s_Arms_init) := ⟨rfl, rfl, rfl, by decide +kernel, rfl, by decide +kernel, by decide +kernel⟩

abbrev s_Coat_init : Stmt := inClass (top 13) 0
abbrev n_Coat_init : List Str := ["self", "kind"]
abbrev p_Coat_init : List Str := ["self", "kind"]
theorem sc_Coat_init : FnScope n_Coat_init p_Coat_init (defScope s_Coat_init) := ⟨rfl, rfl, rfl, by decide +kernel, rfl, by decide +kernel, by decide +kernel⟩

abbrev s_Fault_init : Stmt := inClass (top 33) 0
abbrev n_Fault_init : List Str := ["self", "kind", "place"]
abbrev p_Fault_init : List Str := ["self", "kind", "place"]
theorem sc_Fault_init : FnScope n_Fault_init p_Fault_init (defScope s_Fault_init) := ⟨rfl, rfl, rfl, by decide +kernel, rfl, by decide +kernel, by decide +kernel⟩

abbrev s_Token_init : Stmt := inClass (top 34) 0
abbrev n_Token_init : List Str := ["self", "kind", "value", "place", "behind"]
abbrev p_Token_init : List Str := ["self", "kind", "value", "place", "behind"]
theorem sc_Token_init : FnScope n_Token_init p_Token_init (defScope s_Token_init) := ⟨rfl, rfl, rfl, by decide +kernel, rfl, by decide +kernel, by decide +kernel⟩

abbrev s_Reader_init : Stmt := inClass (top 35) 0
abbrev n_Reader_init : List Str := ["self", "some", "at", "end"]
abbrev p_Reader_init : List Str := ["self", "some", "at", "end"]
theorem sc_Reader_init : FnScope n_Reader_init p_Reader_init (defScope s_Reader_init) := ⟨rfl, rfl, rfl, by decide +kernel, rfl, by decide +kernel, by decide +kernel⟩

abbrev s_is_letter : Stmt := top 36
abbrev n_is_letter : List Str := ["byte"]
abbrev p_is_letter : List Str := ["byte"]
theorem sc_is_letter : FnScope n_is_letter p_is_letter (defScope s_is_letter) := ⟨rfl, rfl, rfl, by decide +kernel, rfl, by decide +kernel, by decide +kernel⟩

abbrev s_is_digit : Stmt := top 37
abbrev n_is_digit : List Str := ["byte"]
abbrev p_is_digit : List Str := ["byte"]
theorem sc_is_digit : FnScope n_is_digit p_is_digit (defScope s_is_digit) := ⟨rfl, rfl, rfl, by decide +kernel, rfl, by decide +kernel, by decide +kernel⟩

abbrev s_is_blank : Stmt := top 38
abbrev n_is_blank : List Str := ["byte"]
abbrev p_is_blank : List Str := ["byte"]
theorem sc_is_blank : FnScope n_is_blank p_is_blank (defScope s_is_blank) := ⟨rfl, rfl, rfl, by decide +kernel, rfl, by decide +kernel, by decide +kernel⟩

abbrev s_text_of : Stmt := top 39
abbrev n_text_of : List Str := ["some", "byte"]
abbrev p_text_of : List Str := ["some"]
theorem sc_text_of : FnScope n_text_of p_text_of (defScope s_text_of) := ⟨rfl, rfl, rfl, by decide +kernel, rfl, by decide +kernel, by decide +kernel⟩

abbrev s_behind_letters : Stmt := top 40
abbrev n_behind_letters : List Str := ["some", "at", "end"]
abbrev p_behind_letters : List Str := ["some", "at", "end"]
theorem sc_behind_letters : FnScope n_behind_letters p_behind_letters (defScope s_behind_letters) := ⟨rfl, rfl, rfl, by decide +kernel, rfl, by decide +kernel, by decide +kernel⟩

abbrev s_behind_digits : Stmt := top 41
abbrev n_behind_digits : List Str := ["some", "at", "end"]
abbrev p_behind_digits : List Str := ["some", "at", "end"]
theorem sc_behind_digits : FnScope n_behind_digits p_behind_digits (defScope s_behind_digits) := ⟨rfl, rfl, rfl, by decide +kernel, rfl, by decide +kernel, by decide +kernel⟩

abbrev s_behind_blanks : Stmt := top 42
abbrev n_behind_blanks : List Str := ["some", "at", "end"]
abbrev p_behind_blanks : List Str := ["some", "at", "end"]
theorem sc_behind_blanks : FnScope n_behind_blanks p_behind_blanks (defScope s_behind_blanks) := ⟨rfl, rfl, rfl, by decide +kernel, rfl, by decide +kernel, by decide +kernel⟩

abbrev s_number_of : Stmt := top 43
abbrev n_number_of : List Str := ["some", "total", "byte"]
abbrev p_number_of : List Str := ["some"]
theorem sc_number_of : FnScope n_number_of p_number_of (defScope s_number_of) := ⟨rfl, rfl, rfl, by decide +kernel, rfl, by decide +kernel, by decide +kernel⟩

abbrev s_number_token : Stmt := top 44
abbrev n_number_token : List Str := ["reader", "at", "behind", "digits"]
abbrev p_number_token : List Str := ["reader", "at"]
theorem sc_number_token : FnScope n_number_token p_number_token (defScope s_number_token) := ⟨rfl, rfl, rfl, by decide +kernel, rfl, by decide +kernel, by decide +kernel⟩

abbrev s_ahead : Stmt := top 45
abbrev n_ahead : List Str := ["reader", "at", "byte", "behind"]
abbrev p_ahead : List Str := ["reader"]
theorem sc_ahead : FnScope n_ahead p_ahead (defScope s_ahead) := ⟨rfl, rfl, rfl, by decide +kernel, rfl, by decide +kernel, by decide +kernel⟩

abbrev s_pass_token : Stmt := top 46
abbrev n_pass_token : List Str := ["reader", "token"]
abbrev p_pass_token : List Str := ["reader"]
theorem sc_pass_token : FnScope n_pass_token p_pass_token (defScope s_pass_token) := ⟨rfl, rfl, rfl, by decide +kernel, rfl, by decide +kernel, by decide +kernel⟩

abbrev s_is_next : Stmt := top 47
abbrev n_is_next : List Str := ["reader", "words", "token"]
abbrev p_is_next : List Str := ["reader", "words"]
theorem sc_is_next : FnScope n_is_next p_is_next (defScope s_is_next) := ⟨rfl, rfl, rfl, by decide +kernel, rfl, by decide +kernel, by decide +kernel⟩

abbrev s_want : Stmt := top 48
abbrev n_want : List Str := ["reader", "good"]
abbrev p_want : List Str := ["reader", "good"]
theorem sc_want : FnScope n_want p_want (defScope s_want) := ⟨rfl, rfl, rfl, by decide +kernel, rfl, by decide +kernel, by decide +kernel⟩

abbrev s_take : Stmt := top 49
abbrev n_take : List Str := ["reader", "words"]
abbrev p_take : List Str := ["reader", "words"]
theorem sc_take : FnScope n_take p_take (defScope s_take) := ⟨rfl, rfl, rfl, by decide +kernel, rfl, by decide +kernel, by decide +kernel⟩

abbrev s_with_sinister : Stmt := top 50
abbrev n_with_sinister : List Str := ["reader", "word"]
abbrev p_with_sinister : List Str := ["reader", "word"]
theorem sc_with_sinister : FnScope n_with_sinister p_with_sinister (defScope s_with_sinister) := ⟨rfl, rfl, rfl, by decide +kernel, rfl, by decide +kernel, by decide +kernel⟩

abbrev s_read_line : Stmt := top 51
abbrev n_read_line : List Str := ["reader"]
abbrev p_read_line : List Str := ["reader"]
theorem sc_read_line : FnScope n_read_line p_read_line (defScope s_read_line) := ⟨rfl, rfl, rfl, by decide +kernel, rfl, by decide +kernel, by decide +kernel⟩

abbrev s_read_tinctures : Stmt := top 52
abbrev n_read_tinctures : List Str := ["reader", "one", "token"]
abbrev p_read_tinctures : List Str := ["reader"]
theorem sc_read_tinctures : FnScope n_read_tinctures p_read_tinctures (defScope s_read_tinctures) := ⟨rfl, rfl, rfl, by decide +kernel, rfl, by decide +kernel, by decide +kernel⟩

abbrev s_read_varied : Stmt := top 53
abbrev n_read_varied : List Str := ["reader", "word", "way", "token", "line"]
abbrev p_read_varied : List Str := ["reader", "word"]
theorem sc_read_varied : FnScope n_read_varied p_read_varied (defScope s_read_varied) := ⟨rfl, rfl, rfl, by decide +kernel, rfl, by decide +kernel, by decide +kernel⟩

abbrev s_read_parted : Stmt := top 54
abbrev n_read_parted : List Str := ["reader", "word", "way"]
abbrev p_read_parted : List Str := ["reader", "word"]
theorem sc_read_parted : FnScope n_read_parted p_read_parted (defScope s_read_parted) := ⟨rfl, rfl, rfl, by decide +kernel, rfl, by decide +kernel, by decide +kernel⟩

abbrev s_read_field : Stmt := top 55
abbrev n_read_field : List Str := ["reader", "word"]
abbrev p_read_field : List Str := ["reader"]
theorem sc_read_field : FnScope n_read_field p_read_field (defScope s_read_field) := ⟨rfl, rfl, rfl, by decide +kernel, rfl, by decide +kernel, by decide +kernel⟩

abbrev s_read_fill : Stmt := top 56
abbrev n_read_fill : List Str := ["reader", "arms", "token"]
abbrev p_read_fill : List Str := ["reader", "arms"]
theorem sc_read_fill : FnScope n_read_fill p_read_fill (defScope s_read_fill) := ⟨rfl, rfl, rfl, by decide +kernel, rfl, by decide +kernel, by decide +kernel⟩

abbrev s_read_manner : Stmt := top 57
abbrev n_read_manner : List Str := ["reader"]
abbrev p_read_manner : List Str := ["reader"]
theorem sc_read_manner : FnScope n_read_manner p_read_manner (defScope s_read_manner) := ⟨rfl, rfl, rfl, by decide +kernel, rfl, by decide +kernel, by decide +kernel⟩

abbrev s_look_at_article : Stmt := top 58
abbrev n_look_at_article : List Str := ["article", "word"]
abbrev p_look_at_article : List Str := ["article", "word"]
theorem sc_look_at_article : FnScope n_look_at_article p_look_at_article (defScope s_look_at_article) := ⟨rfl, rfl, rfl, by decide +kernel, rfl, by decide +kernel, by decide +kernel⟩

abbrev s_several_names : Stmt := top 59
abbrev n_several_names : List Str := ["name"]
abbrev p_several_names : List Str := []
theorem sc_several_names : FnScope n_several_names p_several_names (defScope s_several_names) := ⟨rfl, rfl, rfl, by decide +kernel, rfl, by decide +kernel, by decide +kernel⟩

abbrev s_read_group : Stmt := top 60
abbrev n_read_group : List Str := ["reader", "arms", "many", "article", "names", "size", "charge", "manner"]
abbrev p_read_group : List Str := ["reader", "arms", "many", "article"]
theorem sc_read_group : FnScope n_read_group p_read_group (defScope s_read_group) := ⟨rfl, rfl, rfl, by decide +kernel, rfl, by decide +kernel, by decide +kernel⟩

abbrev s_read_ordinary : Stmt := top 61
abbrev n_read_ordinary : List Str := ["reader", "arms", "which", "line"]
abbrev p_read_ordinary : List Str := ["reader", "arms"]
theorem sc_read_ordinary : FnScope n_read_ordinary p_read_ordinary (defScope s_read_ordinary) := ⟨rfl, rfl, rfl, by decide +kernel, rfl, by decide +kernel, by decide +kernel⟩

abbrev s_read_layer : Stmt := top 62
abbrev n_read_layer : List Str := ["reader", "arms", "many", "article"]
abbrev p_read_layer : List Str := ["reader", "arms"]
theorem sc_read_layer : FnScope n_read_layer p_read_layer (defScope s_read_layer) := ⟨rfl, rfl, rfl, by decide +kernel, rfl, by decide +kernel, by decide +kernel⟩

abbrev s_read_blazon : Stmt := top 63
abbrev n_read_blazon : List Str := ["some", "at", "end", "reader", "arms", "comma"]
abbrev p_read_blazon : List Str := ["some", "at", "end"]
theorem sc_read_blazon : FnScope n_read_blazon p_read_blazon (defScope s_read_blazon) := ⟨rfl, rfl, rfl, by decide +kernel, rfl, by decide +kernel, by decide +kernel⟩

abbrev s_layer_bytes : Stmt := top 65
abbrev n_layer_bytes : List Str := ["layer", "fill"]
abbrev p_layer_bytes : List Str := ["layer"]
theorem sc_layer_bytes : FnScope n_layer_bytes p_layer_bytes (defScope s_layer_bytes) := ⟨rfl, rfl, rfl, by decide +kernel, rfl, by decide +kernel, by decide +kernel⟩

abbrev s_arms_bytes : Stmt := top 66
abbrev n_arms_bytes : List Str := ["arms", "found", "layer"]
abbrev p_arms_bytes : List Str := ["arms"]
theorem sc_arms_bytes : FnScope n_arms_bytes p_arms_bytes (defScope s_arms_bytes) := ⟨rfl, rfl, rfl, by decide +kernel, rfl, by decide +kernel, by decide +kernel⟩

abbrev s_marked_bytes : Stmt := top 67
abbrev n_marked_bytes : List Str := ["coat", "found", "mark"]
abbrev p_marked_bytes : List Str := ["coat"]
theorem sc_marked_bytes : FnScope n_marked_bytes p_marked_bytes (defScope s_marked_bytes) := ⟨rfl, rfl, rfl, by decide +kernel, rfl, by decide +kernel, by decide +kernel⟩

abbrev s_coat_bytes : Stmt := top 68
abbrev n_coat_bytes : List Str := ["coat", "found", "one"]
abbrev p_coat_bytes : List Str := ["coat"]
theorem sc_coat_bytes : FnScope n_coat_bytes p_coat_bytes (defScope s_coat_bytes) := ⟨rfl, rfl, rfl, by decide +kernel, rfl, by decide +kernel, by decide +kernel⟩

abbrev s_Words_init : Stmt := inClass (top 79) 0
abbrev n_Words_init : List Str := ["self", "some"]
abbrev p_Words_init : List Str := ["self", "some"]
theorem sc_Words_init : FnScope n_Words_init p_Words_init (defScope s_Words_init) := ⟨rfl, rfl, rfl, by decide +kernel, rfl, by decide +kernel, by decide +kernel⟩

abbrev s_byte_at : Stmt := top 80
abbrev n_byte_at : List Str := ["words", "at"]
abbrev p_byte_at : List Str := ["words", "at"]
theorem sc_byte_at : FnScope n_byte_at p_byte_at (defScope s_byte_at) := ⟨rfl, rfl, rfl, by decide +kernel, rfl, by decide +kernel, by decide +kernel⟩

abbrev s_pass_blanks : Stmt := top 81
abbrev n_pass_blanks : List Str := ["words"]
abbrev p_pass_blanks : List Str := ["words"]
theorem sc_pass_blanks : FnScope n_pass_blanks p_pass_blanks (defScope s_pass_blanks) := ⟨rfl, rfl, rfl, by decide +kernel, rfl, by decide +kernel, by decide +kernel⟩

abbrev s_take_sign : Stmt := top 82
abbrev n_take_sign : List Str := ["words", "sign"]
abbrev p_take_sign : List Str := ["words", "sign"]
theorem sc_take_sign : FnScope n_take_sign p_take_sign (defScope s_take_sign) := ⟨rfl, rfl, rfl, by decide +kernel, rfl, by decide +kernel, by decide +kernel⟩

abbrev s_word_ahead : Stmt := top 83
abbrev n_word_ahead : List Str := ["words"]
abbrev p_word_ahead : List Str := ["words"]
theorem sc_word_ahead : FnScope n_word_ahead p_word_ahead (defScope s_word_ahead) := ⟨rfl, rfl, rfl, by decide +kernel, rfl, by decide +kernel, by decide +kernel⟩

abbrev s_read_arms : Stmt := top 84
abbrev n_read_arms : List Str := ["words", "begin", "end", "arms"]
abbrev p_read_arms : List Str := ["words"]
theorem sc_read_arms : FnScope n_read_arms p_read_arms (defScope s_read_arms) := ⟨rfl, rfl, rfl, by decide +kernel, rfl, by decide +kernel, by decide +kernel⟩

abbrev s_read_number : Stmt := top 85
abbrev n_read_number : List Str := ["words", "begin", "digits"]
abbrev p_read_number : List Str := ["words"]
theorem sc_read_number : FnScope n_read_number p_read_number (defScope s_read_number) := ⟨rfl, rfl, rfl, by decide +kernel, rfl, by decide +kernel, by decide +kernel⟩

abbrev s_read_mark : Stmt := top 86
abbrev n_read_mark : List Str := ["words", "begin", "g", "k"]
abbrev p_read_mark : List Str := ["words"]
theorem sc_read_mark : FnScope n_read_mark p_read_mark (defScope s_read_mark) := ⟨rfl, rfl, rfl, by decide +kernel, rfl, by decide +kernel, by decide +kernel⟩

abbrev s_read_marks : Stmt := top 87
abbrev n_read_marks : List Str := ["words", "coat"]
abbrev p_read_marks : List Str := ["words", "coat"]
theorem sc_read_marks : FnScope n_read_marks p_read_marks (defScope s_read_marks) := ⟨rfl, rfl, rfl, by decide +kernel, rfl, by decide +kernel, by decide +kernel⟩

abbrev s_read_marked : Stmt := top 88
abbrev n_read_marked : List Str := ["words", "coat"]
abbrev p_read_marked : List Str := ["words"]
theorem sc_read_marked : FnScope n_read_marked p_read_marked (defScope s_read_marked) := ⟨rfl, rfl, rfl, by decide +kernel, rfl, by decide +kernel, by decide +kernel⟩

abbrev s_read_list : Stmt := top 89
abbrev n_read_list : List Str := ["words", "coat", "deep", "place"]
abbrev p_read_list : List Str := ["words", "coat", "deep", "place"]
theorem sc_read_list : FnScope n_read_list p_read_list (defScope s_read_list) := ⟨rfl, rfl, rfl, by decide +kernel, rfl, by decide +kernel, by decide +kernel⟩

abbrev s_read_coat : Stmt := top 90
abbrev n_read_coat : List Str := ["words", "deep", "byte", "place", "word", "coat"]
abbrev p_read_coat : List Str := ["words", "deep"]
theorem sc_read_coat : FnScope n_read_coat p_read_coat (defScope s_read_coat) := ⟨rfl, rfl, rfl, by decide +kernel, rfl, by decide +kernel, by decide +kernel⟩

abbrev s_coat_of_words : Stmt := top 91
abbrev n_coat_of_words : List Str := ["some", "words", "coat"]
abbrev p_coat_of_words : List Str := ["some"]
theorem sc_coat_of_words : FnScope n_coat_of_words p_coat_of_words (defScope s_coat_of_words) := ⟨rfl, rfl, rfl, by decide +kernel, rfl, by decide +kernel, by decide +kernel⟩

abbrev s_read : Stmt := top 93
abbrev n_read : List Str := ["t", "found", "e"]
abbrev p_read : List Str := ["t"]
theorem sc_read : FnScope n_read p_read (defScope s_read) := ⟨rfl, rfl, rfl, by decide +kernel, rfl, by decide +kernel, by decide +kernel⟩

def w_CHARGES : List V := [V.str "roundel", V.str "annulet", V.str "lozenge", V.str "mascle", V.str "fusil", V.str "billet", V.str "mullet", V.str "crescent", V.str "increscent", V.str "crosslet", V.str "saltorel", V.str "escutcheon", V.str "tower", V.str "sword", V.str "wheel", V.str "arrow"]
def w_COUNTS : List V := [V.str "one", V.str "two", V.str "three", V.str "four", V.str "five", V.str "six", V.str "seven", V.str "eight", V.str "nine", V.str "ten"]
def w_LINES : List V := [V.str "straight", V.str "wavy", V.str "embattled", V.str "indented", V.str "engrailed", V.str "invected"]
def w_MANNERS : List V := [V.str "rows", V.str "fess", V.str "pale", V.str "bend", V.str "bend sinister", V.str "chief", V.str "base"]
def w_ORDINARIES : List V := [V.str "chief", V.str "base", V.str "pale", V.str "fess", V.str "bend", V.str "bend sinister", V.str "chevron", V.str "cross", V.str "saltire", V.str "pile", V.str "bordure", V.str "canton", V.str "quarter"]
def w_SIZES : List V := [V.str "none", V.str "small", V.str "lesser", V.str "none", V.str "great"]
def w_TINCTURES : List V := [V.str "or", V.str "argent", V.str "gules", V.str "azure", V.str "sable", V.str "vert", V.str "purpure", V.str "ermine", V.str "vair"]
def w_VARIETIES : List V := [V.str "barry", V.str "paly", V.str "bendy", V.str "bendy sinister", V.str "chevronny", V.str "chequy", V.str "lozengy"]
def w_WAYS : List V := [V.str "pale", V.str "fess", V.str "bend", V.str "bend sinister", V.str "chevron", V.str "saltire"]
def dd_Layer_init : He.DefD := ⟨("Layer", some "__init__"), "__init__", "Layer.__init__", defArgs s_Layer_init, defBody s_Layer_init, defScope s_Layer_init, [], []⟩
def dd_Arms_init : He.DefD := ⟨("Arms", some "__init__"), "__init__", "Arms.__init__", defArgs s_Arms_init, defBody s_Arms_init, defScope s_Arms_init, [], []⟩
def dd_Coat_init : He.DefD := ⟨("Coat", some "__init__"), "__init__", "Coat.__init__", defArgs s_Coat_init, defBody s_Coat_init, defScope s_Coat_init, [], []⟩
def dd_Fault_init : He.DefD := ⟨("Fault", some "__init__"), "__init__", "Fault.__init__", defArgs s_Fault_init, defBody s_Fault_init, defScope s_Fault_init, [], []⟩
def dd_Token_init : He.DefD := ⟨("Token", some "__init__"), "__init__", "Token.__init__", defArgs s_Token_init, defBody s_Token_init, defScope s_Token_init, [], []⟩
def dd_Reader_init : He.DefD := ⟨("Reader", some "__init__"), "__init__", "Reader.__init__", defArgs s_Reader_init, defBody s_Reader_init, defScope s_Reader_init, [], []⟩
def dd_Words_init : He.DefD := ⟨("Words", some "__init__"), "__init__", "Words.__init__", defArgs s_Words_init, defBody s_Words_init, defScope s_Words_init, [], []⟩
def dd_is_letter : He.DefD := ⟨("is_letter", none), "is_letter", "is_letter", defArgs s_is_letter, defBody s_is_letter, defScope s_is_letter, [], []⟩
def dd_is_digit : He.DefD := ⟨("is_digit", none), "is_digit", "is_digit", defArgs s_is_digit, defBody s_is_digit, defScope s_is_digit, [], []⟩
def dd_is_blank : He.DefD := ⟨("is_blank", none), "is_blank", "is_blank", defArgs s_is_blank, defBody s_is_blank, defScope s_is_blank, [], []⟩
def dd_text_of : He.DefD := ⟨("text_of", none), "text_of", "text_of", defArgs s_text_of, defBody s_text_of, defScope s_text_of, [], []⟩
def dd_behind_letters : He.DefD := ⟨("behind_letters", none), "behind_letters", "behind_letters", defArgs s_behind_letters, defBody s_behind_letters, defScope s_behind_letters, [], []⟩
def dd_behind_digits : He.DefD := ⟨("behind_digits", none), "behind_digits", "behind_digits", defArgs s_behind_digits, defBody s_behind_digits, defScope s_behind_digits, [], []⟩
def dd_behind_blanks : He.DefD := ⟨("behind_blanks", none), "behind_blanks", "behind_blanks", defArgs s_behind_blanks, defBody s_behind_blanks, defScope s_behind_blanks, [], []⟩
def dd_number_of : He.DefD := ⟨("number_of", none), "number_of", "number_of", defArgs s_number_of, defBody s_number_of, defScope s_number_of, [], []⟩
def dd_number_token : He.DefD := ⟨("number_token", none), "number_token", "number_token", defArgs s_number_token, defBody s_number_token, defScope s_number_token, [], []⟩
def dd_ahead : He.DefD := ⟨("ahead", none), "ahead", "ahead", defArgs s_ahead, defBody s_ahead, defScope s_ahead, [], []⟩
def dd_pass_token : He.DefD := ⟨("pass_token", none), "pass_token", "pass_token", defArgs s_pass_token, defBody s_pass_token, defScope s_pass_token, [], []⟩
def dd_is_next : He.DefD := ⟨("is_next", none), "is_next", "is_next", defArgs s_is_next, defBody s_is_next, defScope s_is_next, [], []⟩
def dd_want : He.DefD := ⟨("want", none), "want", "want", defArgs s_want, defBody s_want, defScope s_want, [], []⟩
def dd_take : He.DefD := ⟨("take", none), "take", "take", defArgs s_take, defBody s_take, defScope s_take, [], []⟩
def dd_with_sinister : He.DefD := ⟨("with_sinister", none), "with_sinister", "with_sinister", defArgs s_with_sinister, defBody s_with_sinister, defScope s_with_sinister, [], []⟩
def dd_read_line : He.DefD := ⟨("read_line", none), "read_line", "read_line", defArgs s_read_line, defBody s_read_line, defScope s_read_line, [], []⟩
def dd_read_tinctures : He.DefD := ⟨("read_tinctures", none), "read_tinctures", "read_tinctures", defArgs s_read_tinctures, defBody s_read_tinctures, defScope s_read_tinctures, [], []⟩
def dd_read_varied : He.DefD := ⟨("read_varied", none), "read_varied", "read_varied", defArgs s_read_varied, defBody s_read_varied, defScope s_read_varied, [], []⟩
def dd_read_parted : He.DefD := ⟨("read_parted", none), "read_parted", "read_parted", defArgs s_read_parted, defBody s_read_parted, defScope s_read_parted, [], []⟩
def dd_read_field : He.DefD := ⟨("read_field", none), "read_field", "read_field", defArgs s_read_field, defBody s_read_field, defScope s_read_field, [], []⟩
def dd_read_fill : He.DefD := ⟨("read_fill", none), "read_fill", "read_fill", defArgs s_read_fill, defBody s_read_fill, defScope s_read_fill, [], []⟩
def dd_read_manner : He.DefD := ⟨("read_manner", none), "read_manner", "read_manner", defArgs s_read_manner, defBody s_read_manner, defScope s_read_manner, [], []⟩
def dd_look_at_article : He.DefD := ⟨("look_at_article", none), "look_at_article", "look_at_article", defArgs s_look_at_article, defBody s_look_at_article, defScope s_look_at_article, [], []⟩
def dd_several_names : He.DefD := ⟨("several_names", none), "several_names", "several_names", defArgs s_several_names, defBody s_several_names, defScope s_several_names, [], []⟩
def dd_read_group : He.DefD := ⟨("read_group", none), "read_group", "read_group", defArgs s_read_group, defBody s_read_group, defScope s_read_group, [], []⟩
def dd_read_ordinary : He.DefD := ⟨("read_ordinary", none), "read_ordinary", "read_ordinary", defArgs s_read_ordinary, defBody s_read_ordinary, defScope s_read_ordinary, [], []⟩
def dd_read_layer : He.DefD := ⟨("read_layer", none), "read_layer", "read_layer", defArgs s_read_layer, defBody s_read_layer, defScope s_read_layer, [], []⟩
def dd_read_blazon : He.DefD := ⟨("read_blazon", none), "read_blazon", "read_blazon", defArgs s_read_blazon, defBody s_read_blazon, defScope s_read_blazon, [], []⟩
def dd_layer_bytes : He.DefD := ⟨("layer_bytes", none), "layer_bytes", "layer_bytes", defArgs s_layer_bytes, defBody s_layer_bytes, defScope s_layer_bytes, [], []⟩
def dd_arms_bytes : He.DefD := ⟨("arms_bytes", none), "arms_bytes", "arms_bytes", defArgs s_arms_bytes, defBody s_arms_bytes, defScope s_arms_bytes, [], []⟩
def dd_marked_bytes : He.DefD := ⟨("marked_bytes", none), "marked_bytes", "marked_bytes", defArgs s_marked_bytes, defBody s_marked_bytes, defScope s_marked_bytes, [], []⟩
def dd_coat_bytes : He.DefD := ⟨("coat_bytes", none), "coat_bytes", "coat_bytes", defArgs s_coat_bytes, defBody s_coat_bytes, defScope s_coat_bytes, [], []⟩
def dd_byte_at : He.DefD := ⟨("byte_at", none), "byte_at", "byte_at", defArgs s_byte_at, defBody s_byte_at, defScope s_byte_at, [], []⟩
def dd_pass_blanks : He.DefD := ⟨("pass_blanks", none), "pass_blanks", "pass_blanks", defArgs s_pass_blanks, defBody s_pass_blanks, defScope s_pass_blanks, [], []⟩
def dd_take_sign : He.DefD := ⟨("take_sign", none), "take_sign", "take_sign", defArgs s_take_sign, defBody s_take_sign, defScope s_take_sign, [], []⟩
def dd_word_ahead : He.DefD := ⟨("word_ahead", none), "word_ahead", "word_ahead", defArgs s_word_ahead, defBody s_word_ahead, defScope s_word_ahead, [], []⟩
def dd_read_arms : He.DefD := ⟨("read_arms", none), "read_arms", "read_arms", defArgs s_read_arms, defBody s_read_arms, defScope s_read_arms, [], []⟩
def dd_read_number : He.DefD := ⟨("read_number", none), "read_number", "read_number", defArgs s_read_number, defBody s_read_number, defScope s_read_number, [], []⟩
def dd_read_mark : He.DefD := ⟨("read_mark", none), "read_mark", "read_mark", defArgs s_read_mark, defBody s_read_mark, defScope s_read_mark, [], []⟩
def dd_read_marks : He.DefD := ⟨("read_marks", none), "read_marks", "read_marks", defArgs s_read_marks, defBody s_read_marks, defScope s_read_marks, [], []⟩
def dd_read_marked : He.DefD := ⟨("read_marked", none), "read_marked", "read_marked", defArgs s_read_marked, defBody s_read_marked, defScope s_read_marked, [], []⟩
def dd_read_list : He.DefD := ⟨("read_list", none), "read_list", "read_list", defArgs s_read_list, defBody s_read_list, defScope s_read_list, [], []⟩
def dd_read_coat : He.DefD := ⟨("read_coat", none), "read_coat", "read_coat", defArgs s_read_coat, defBody s_read_coat, defScope s_read_coat, [], []⟩
def dd_coat_of_words : He.DefD := ⟨("coat_of_words", none), "coat_of_words", "coat_of_words", defArgs s_coat_of_words, defBody s_coat_of_words, defScope s_coat_of_words, [], []⟩
def dd_read : He.DefD := ⟨("read", none), "read", "read", defArgs s_read, defBody s_read, defScope s_read, [], []⟩
/-- what the top has written -/
structure Txt (w : World) (K : PySem.W.Frag) (mg : Str → Option Value) : Prop where
  g_ALONE : mg "ALONE" = some (.ref (He.ga K "ALONE"))
  k_ALONE : ∃ es n, KDict K w (He.ga K "ALONE") es n
  u_ALONE : KeysD K w (He.ga K "ALONE") ["quarterly", "gyronny"]
  v_ALONE_quarterly : ∃ u, PySem.W.nsIn K (He.ga K "ALONE") "quarterly" = some (some u) ∧ RelV (.int 6) u
  v_ALONE_gyronny : ∃ u, PySem.W.nsIn K (He.ga K "ALONE") "gyronny" = some (some u) ∧ RelV (.int 7) u
  i_BETWEEN : ∃ t, mg "BETWEEN" = some (.int 59 t)
  g_CHARGES : mg "CHARGES" = some (.ref (He.ga K "CHARGES"))
  t_CHARGES : ∀ H : Hp, SqT K H (He.ga K "CHARGES") w_CHARGES
  i_CLOSING : ∃ t, mg "CLOSING" = some (.int 41 t)
  i_COMMA : ∃ t, mg "COMMA" = some (.int 3 t)
  g_COUNTS : mg "COUNTS" = some (.ref (He.ga K "COUNTS"))
  t_COUNTS : ∀ H : Hp, SqT K H (He.ga K "COUNTS") w_COUNTS
  y_COUNTS : TupD K (He.ga K "COUNTS")
  i_END : ∃ t, mg "END" = some (.int 4 t)
  i_GROUP : ∃ t, mg "GROUP" = some (.int 1 t)
  g_KINDS : mg "KINDS" = some (.ref (He.ga K "KINDS"))
  k_KINDS : ∃ es n, KDict K w (He.ga K "KINDS") es n
  u_KINDS : KeysD K w (He.ga K "KINDS") ["quarterly", "impaled", "pretence"]
  v_KINDS_quarterly : ∃ u, PySem.W.nsIn K (He.ga K "KINDS") "quarterly" = some (some u) ∧ RelV (.int 1) u
  v_KINDS_impaled : ∃ u, PySem.W.nsIn K (He.ga K "KINDS") "impaled" = some (some u) ∧ RelV (.int 2) u
  v_KINDS_pretence : ∃ u, PySem.W.nsIn K (He.ga K "KINDS") "pretence" = some (some u) ∧ RelV (.int 3) u
  z_LETTERS : ∃ t, mg "LETTERS" = some (.str "abcdefghijklmnopqrstuvwxyz" t)
  g_LINES : mg "LINES" = some (.ref (He.ga K "LINES"))
  t_LINES : ∀ H : Hp, SqT K H (He.ga K "LINES") w_LINES
  y_LINES : TupD K (He.ga K "LINES")
  i_LIST_CLOSING : ∃ t, mg "LIST_CLOSING" = some (.int 93 t)
  i_LIST_OPENING : ∃ t, mg "LIST_OPENING" = some (.int 91 t)
  g_MANNERS : mg "MANNERS" = some (.ref (He.ga K "MANNERS"))
  t_MANNERS : ∀ H : Hp, SqT K H (He.ga K "MANNERS") w_MANNERS
  y_MANNERS : TupD K (He.ga K "MANNERS")
  i_MARKED : ∃ t, mg "MARKED" = some (.int 0 t)
  i_MOST_COATS : ∃ t, mg "MOST_COATS" = some (.int 9 t)
  i_MOST_DEEP : ∃ t, mg "MOST_DEEP" = some (.int 4 t)
  i_MOST_LAYERS : ∃ t, mg "MOST_LAYERS" = some (.int 8 t)
  i_MOST_MARKS : ∃ t, mg "MOST_MARKS" = some (.int 60 t)
  i_NUMBER : ∃ t, mg "NUMBER" = some (.int 2 t)
  i_OPENING : ∃ t, mg "OPENING" = some (.int 40 t)
  g_ORDINARIES : mg "ORDINARIES" = some (.ref (He.ga K "ORDINARIES"))
  t_ORDINARIES : ∀ H : Hp, SqT K H (He.ga K "ORDINARIES") w_ORDINARIES
  y_ORDINARIES : TupD K (He.ga K "ORDINARIES")
  i_ORDINARY : ∃ t, mg "ORDINARY" = some (.int 0 t)
  i_PARTED : ∃ t, mg "PARTED" = some (.int 1 t)
  i_PLAIN : ∃ t, mg "PLAIN" = some (.int 0 t)
  i_POINT : ∃ t, mg "POINT" = some (.int 46 t)
  i_QUARTERLY : ∃ t, mg "QUARTERLY" = some (.int 1 t)
  z_SEVERAL : ∃ t, mg "SEVERAL" = some (.str "s" t)
  g_SIZES : mg "SIZES" = some (.ref (He.ga K "SIZES"))
  t_SIZES : ∀ H : Hp, SqT K H (He.ga K "SIZES") w_SIZES
  y_SIZES : TupD K (He.ga K "SIZES")
  g_TINCTURES : mg "TINCTURES" = some (.ref (He.ga K "TINCTURES"))
  t_TINCTURES : ∀ H : Hp, SqT K H (He.ga K "TINCTURES") w_TINCTURES
  y_TINCTURES : TupD K (He.ga K "TINCTURES")
  i_VARIED : ∃ t, mg "VARIED" = some (.int 2 t)
  g_VARIETIES : mg "VARIETIES" = some (.ref (He.ga K "VARIETIES"))
  t_VARIETIES : ∀ H : Hp, SqT K H (He.ga K "VARIETIES") w_VARIETIES
  y_VARIETIES : TupD K (He.ga K "VARIETIES")
  z_VOWELS : ∃ t, mg "VOWELS" = some (.str "aeiou" t)
  g_WAYS : mg "WAYS" = some (.ref (He.ga K "WAYS"))
  t_WAYS : ∀ H : Hp, SqT K H (He.ga K "WAYS") w_WAYS
  y_WAYS : TupD K (He.ga K "WAYS")
  i_WORD : ∃ t, mg "WORD" = some (.int 1 t)
  f_len : mg "len" = none
  f_list : mg "list" = none
  f_tuple : mg "tuple" = none
  g_Layer : mg "Layer" = some (.ref (He.ga K "Layer"))
  di_Layer : DefI K "Layer" "Layer.__init__" s_Layer_init p_Layer_init
  c_Layer : Cls K (He.ga K "Layer")
  m_Layer : Mk K (He.ga K "Layer") (He.ma K (He.ga K "Layer") "__init__")
  n_Layer_kind : NoAttr K (He.ga K "Layer") "kind"
  n_Layer_numbers : NoAttr K (He.ga K "Layer") "numbers"
  n_Layer_fill : NoAttr K (He.ga K "Layer") "fill"
  g_Arms : mg "Arms" = some (.ref (He.ga K "Arms"))
  di_Arms : DefI K "Arms" "Arms.__init__" s_Arms_init p_Arms_init
  c_Arms : Cls K (He.ga K "Arms")
  m_Arms : Mk K (He.ga K "Arms") (He.ma K (He.ga K "Arms") "__init__")
  n_Arms_field : NoAttr K (He.ga K "Arms") "field"
  n_Arms_layers : NoAttr K (He.ga K "Arms") "layers"
  g_Coat : mg "Coat" = some (.ref (He.ga K "Coat"))
  di_Coat : DefI K "Coat" "Coat.__init__" s_Coat_init p_Coat_init
  c_Coat : Cls K (He.ga K "Coat")
  m_Coat : Mk K (He.ga K "Coat") (He.ma K (He.ga K "Coat") "__init__")
  n_Coat_kind : NoAttr K (He.ga K "Coat") "kind"
  n_Coat_arms : NoAttr K (He.ga K "Coat") "arms"
  n_Coat_canton : NoAttr K (He.ga K "Coat") "canton"
  n_Coat_marks : NoAttr K (He.ga K "Coat") "marks"
  n_Coat_coats : NoAttr K (He.ga K "Coat") "coats"
  g_Fault : mg "Fault" = some (.ref (He.ga K "Fault"))
  di_Fault : DefI K "Fault" "Fault.__init__" s_Fault_init p_Fault_init
  x_Fault : ErrT K "Fault" ["kind", "place"]
  g_Token : mg "Token" = some (.ref (He.ga K "Token"))
  di_Token : DefI K "Token" "Token.__init__" s_Token_init p_Token_init
  c_Token : Cls K (He.ga K "Token")
  m_Token : Mk K (He.ga K "Token") (He.ma K (He.ga K "Token") "__init__")
  n_Token_kind : NoAttr K (He.ga K "Token") "kind"
  n_Token_value : NoAttr K (He.ga K "Token") "value"
  n_Token_place : NoAttr K (He.ga K "Token") "place"
  n_Token_behind : NoAttr K (He.ga K "Token") "behind"
  g_Reader : mg "Reader" = some (.ref (He.ga K "Reader"))
  di_Reader : DefI K "Reader" "Reader.__init__" s_Reader_init p_Reader_init
  c_Reader : Cls K (He.ga K "Reader")
  m_Reader : Mk K (He.ga K "Reader") (He.ma K (He.ga K "Reader") "__init__")
  n_Reader_some : NoAttr K (He.ga K "Reader") "some"
  n_Reader_at : NoAttr K (He.ga K "Reader") "at"
  n_Reader_end : NoAttr K (He.ga K "Reader") "end"
  g_Words : mg "Words" = some (.ref (He.ga K "Words"))
  di_Words : DefI K "Words" "Words.__init__" s_Words_init p_Words_init
  c_Words : Cls K (He.ga K "Words")
  m_Words : Mk K (He.ga K "Words") (He.ma K (He.ga K "Words") "__init__")
  n_Words_some : NoAttr K (He.ga K "Words") "some"
  n_Words_at : NoAttr K (He.ga K "Words") "at"
  d_is_letter : Def K mg "is_letter" s_is_letter p_is_letter
  d_is_digit : Def K mg "is_digit" s_is_digit p_is_digit
  d_is_blank : Def K mg "is_blank" s_is_blank p_is_blank
  d_text_of : Def K mg "text_of" s_text_of p_text_of
  d_behind_letters : Def K mg "behind_letters" s_behind_letters p_behind_letters
  d_behind_digits : Def K mg "behind_digits" s_behind_digits p_behind_digits
  d_behind_blanks : Def K mg "behind_blanks" s_behind_blanks p_behind_blanks
  d_number_of : Def K mg "number_of" s_number_of p_number_of
  d_number_token : Def K mg "number_token" s_number_token p_number_token
  d_ahead : Def K mg "ahead" s_ahead p_ahead
  d_pass_token : Def K mg "pass_token" s_pass_token p_pass_token
  d_is_next : Def K mg "is_next" s_is_next p_is_next
  d_want : Def K mg "want" s_want p_want
  d_take : Def K mg "take" s_take p_take
  d_with_sinister : Def K mg "with_sinister" s_with_sinister p_with_sinister
  d_read_line : Def K mg "read_line" s_read_line p_read_line
  d_read_tinctures : Def K mg "read_tinctures" s_read_tinctures p_read_tinctures
  d_read_varied : Def K mg "read_varied" s_read_varied p_read_varied
  d_read_parted : Def K mg "read_parted" s_read_parted p_read_parted
  d_read_field : Def K mg "read_field" s_read_field p_read_field
  d_read_fill : Def K mg "read_fill" s_read_fill p_read_fill
  d_read_manner : Def K mg "read_manner" s_read_manner p_read_manner
  d_look_at_article : Def K mg "look_at_article" s_look_at_article p_look_at_article
  d_several_names : Def K mg "several_names" s_several_names p_several_names
  d_read_group : Def K mg "read_group" s_read_group p_read_group
  d_read_ordinary : Def K mg "read_ordinary" s_read_ordinary p_read_ordinary
  d_read_layer : Def K mg "read_layer" s_read_layer p_read_layer
  d_read_blazon : Def K mg "read_blazon" s_read_blazon p_read_blazon
  d_layer_bytes : Def K mg "layer_bytes" s_layer_bytes p_layer_bytes
  d_arms_bytes : Def K mg "arms_bytes" s_arms_bytes p_arms_bytes
  d_marked_bytes : Def K mg "marked_bytes" s_marked_bytes p_marked_bytes
  d_coat_bytes : Def K mg "coat_bytes" s_coat_bytes p_coat_bytes
  d_byte_at : Def K mg "byte_at" s_byte_at p_byte_at
  d_pass_blanks : Def K mg "pass_blanks" s_pass_blanks p_pass_blanks
  d_take_sign : Def K mg "take_sign" s_take_sign p_take_sign
  d_word_ahead : Def K mg "word_ahead" s_word_ahead p_word_ahead
  d_read_arms : Def K mg "read_arms" s_read_arms p_read_arms
  d_read_number : Def K mg "read_number" s_read_number p_read_number
  d_read_mark : Def K mg "read_mark" s_read_mark p_read_mark
  d_read_marks : Def K mg "read_marks" s_read_marks p_read_marks
  d_read_marked : Def K mg "read_marked" s_read_marked p_read_marked
  d_read_list : Def K mg "read_list" s_read_list p_read_list
  d_read_coat : Def K mg "read_coat" s_read_coat p_read_coat
  d_coat_of_words : Def K mg "coat_of_words" s_coat_of_words p_coat_of_words
  d_read : Def K mg "read" s_read p_read
def fa : List He.Fa := [.glo "ALONE", .int "BETWEEN" 59, .glo "CHARGES", .int "CLOSING" 41, .int "COMMA" 3, .glo "COUNTS", .int "END" 4, .int "GROUP" 1, .glo "KINDS", .str "LETTERS" "abcdefghijklmnopqrstuvwxyz", .glo "LINES", .int "LIST_CLOSING" 93, .int "LIST_OPENING" 91, .glo "MANNERS", .int "MARKED" 0, .int "MOST_COATS" 9, .int "MOST_DEEP" 4, .int "MOST_LAYERS" 8, .int "MOST_MARKS" 60, .int "NUMBER" 2, .int "OPENING" 40, .glo "ORDINARIES", .int "ORDINARY" 0, .int "PARTED" 1, .int "PLAIN" 0, .int "POINT" 46, .int "QUARTERLY" 1, .str "SEVERAL" "s", .glo "SIZES", .glo "TINCTURES", .int "VARIED" 2, .glo "VARIETIES", .str "VOWELS" "aeiou", .glo "WAYS", .int "WORD" 1, .free "len", .free "list", .free "tuple", .glo "Layer", .cls "Layer", .mkr "Layer", .noat "Layer" "kind", .noat "Layer" "numbers", .noat "Layer" "fill", .glo "Arms", .cls "Arms", .mkr "Arms", .noat "Arms" "field", .noat "Arms" "layers", .glo "Coat", .cls "Coat", .mkr "Coat", .noat "Coat" "kind", .noat "Coat" "arms", .noat "Coat" "canton", .noat "Coat" "marks", .noat "Coat" "coats", .glo "Fault", .glo "Token", .cls "Token", .mkr "Token", .noat "Token" "kind", .noat "Token" "value", .noat "Token" "place", .noat "Token" "behind", .glo "Reader", .cls "Reader", .mkr "Reader", .noat "Reader" "some", .noat "Reader" "at", .noat "Reader" "end", .glo "Words", .cls "Words", .mkr "Words", .noat "Words" "some", .noat "Words" "at", .glo "is_letter", .glo "is_digit", .glo "is_blank", .glo "text_of", .glo "behind_letters", .glo "behind_digits", .glo "behind_blanks", .glo "number_of", .glo "number_token", .glo "ahead", .glo "pass_token", .glo "is_next", .glo "want", .glo "take", .glo "with_sinister", .glo "read_line", .glo "read_tinctures", .glo "read_varied", .glo "read_parted", .glo "read_field", .glo "read_fill", .glo "read_manner", .glo "look_at_article", .glo "several_names", .glo "read_group", .glo "read_ordinary", .glo "read_layer", .glo "read_blazon", .glo "layer_bytes", .glo "arms_bytes", .glo "marked_bytes", .glo "coat_bytes", .glo "byte_at", .glo "pass_blanks", .glo "take_sign", .glo "word_ahead", .glo "read_arms", .glo "read_number", .glo "read_mark", .glo "read_marks", .glo "read_marked", .glo "read_list", .glo "read_coat", .glo "coat_of_words", .glo "read"]
def fn : List He.DefD := [dd_Layer_init, dd_Arms_init, dd_Coat_init, dd_Fault_init, dd_Token_init, dd_Reader_init, dd_Words_init, dd_is_letter, dd_is_digit, dd_is_blank, dd_text_of, dd_behind_letters, dd_behind_digits, dd_behind_blanks, dd_number_of, dd_number_token, dd_ahead, dd_pass_token, dd_is_next, dd_want, dd_take, dd_with_sinister, dd_read_line, dd_read_tinctures, dd_read_varied, dd_read_parted, dd_read_field, dd_read_fill, dd_read_manner, dd_look_at_article, dd_several_names, dd_read_group, dd_read_ordinary, dd_read_layer, dd_read_blazon, dd_layer_bytes, dd_arms_bytes, dd_marked_bytes, dd_coat_bytes, dd_byte_at, dd_pass_blanks, dd_take_sign, dd_word_ahead, dd_read_arms, dd_read_number, dd_read_mark, dd_read_marks, dd_read_marked, dd_read_list, dd_read_coat, dd_coat_of_words, dd_read]
def tabs : List He.Tab := [(fun K => He.ga K "ALONE", ["quarterly", "gyronny"]), (fun K => He.ga K "KINDS", ["quarterly", "impaled", "pretence"])]
def exb (K : PySem.W.Frag) : Bool := He.valsB K (He.ga K "ALONE") [("quarterly", .int 6), ("gyronny", .int 7)] && (keysB K (He.ga K "ALONE") ["quarterly", "gyronny"] && (He.tupB K "CHARGES" [.str "roundel", .str "annulet", .str "lozenge", .str "mascle", .str "fusil", .str "billet", .str "mullet", .str "crescent", .str "increscent", .str "crosslet", .str "saltorel", .str "escutcheon", .str "tower", .str "sword", .str "wheel", .str "arrow"] && (He.tupB K "COUNTS" [.str "one", .str "two", .str "three", .str "four", .str "five", .str "six", .str "seven", .str "eight", .str "nine", .str "ten"] && (tupDB K (He.ga K "COUNTS") && (He.valsB K (He.ga K "KINDS") [("quarterly", .int 1), ("impaled", .int 2), ("pretence", .int 3)] && (keysB K (He.ga K "KINDS") ["quarterly", "impaled", "pretence"] && (He.tupB K "LINES" [.str "straight", .str "wavy", .str "embattled", .str "indented", .str "engrailed", .str "invected"] && (tupDB K (He.ga K "LINES") && (He.tupB K "MANNERS" [.str "rows", .str "fess", .str "pale", .str "bend", .str "bend sinister", .str "chief", .str "base"] && (tupDB K (He.ga K "MANNERS") && (He.tupB K "ORDINARIES" [.str "chief", .str "base", .str "pale", .str "fess", .str "bend", .str "bend sinister", .str "chevron", .str "cross", .str "saltire", .str "pile", .str "bordure", .str "canton", .str "quarter"] && (tupDB K (He.ga K "ORDINARIES") && (He.tupB K "SIZES" [.str "none", .str "small", .str "lesser", .str "none", .str "great"] && (tupDB K (He.ga K "SIZES") && (He.tupB K "TINCTURES" [.str "or", .str "argent", .str "gules", .str "azure", .str "sable", .str "vert", .str "purpure", .str "ermine", .str "vair"] && (tupDB K (He.ga K "TINCTURES") && (He.tupB K "VARIETIES" [.str "barry", .str "paly", .str "bendy", .str "bendy sinister", .str "chevronny", .str "chequy", .str "lozengy"] && (tupDB K (He.ga K "VARIETIES") && (He.tupB K "WAYS" [.str "pale", .str "fess", .str "bend", .str "bend sinister", .str "chevron", .str "saltire"] && (tupDB K (He.ga K "WAYS") && (errB K "Fault" ["kind", "place"])))))))))))))))))))))
theorem txt_of {w : World} {K : PySem.W.Frag} {h : Heap} {mg : Str → Option Value} (X : K.In h) (G : h.Ns mainGlobals mg) (c : He.SaysT fa fn tabs w K) (e : exb K = true) : Txt w K mg := by
  unfold exb at e
  obtain ⟨e0, r0⟩ := He.ba e
  obtain ⟨e1, r1⟩ := He.ba r0
  obtain ⟨e2, r2⟩ := He.ba r1
  obtain ⟨e3, r3⟩ := He.ba r2
  obtain ⟨e4, r4⟩ := He.ba r3
  obtain ⟨e5, r5⟩ := He.ba r4
  obtain ⟨e6, r6⟩ := He.ba r5
  obtain ⟨e7, r7⟩ := He.ba r6
  obtain ⟨e8, r8⟩ := He.ba r7
  obtain ⟨e9, r9⟩ := He.ba r8
  obtain ⟨e10, r10⟩ := He.ba r9
  obtain ⟨e11, r11⟩ := He.ba r10
  obtain ⟨e12, r12⟩ := He.ba r11
  obtain ⟨e13, r13⟩ := He.ba r12
  obtain ⟨e14, r14⟩ := He.ba r13
  obtain ⟨e15, r15⟩ := He.ba r14
  obtain ⟨e16, r16⟩ := He.ba r15
  obtain ⟨e17, r17⟩ := He.ba r16
  obtain ⟨e18, r18⟩ := He.ba r17
  obtain ⟨e19, r19⟩ := He.ba r18
  obtain ⟨e20, e21⟩ := He.ba r19
  exact {
    g_ALONE := He.glo_ok X G (fact_of c.d 0 rfl)
    k_ALONE := c.tab 0 rfl
    u_ALONE := keysB_ok e1 (c.tab 0 rfl)
    v_ALONE_quarterly := He.valsB_ok e0 (q := ("quarterly", .int 6)) (by simp)
    v_ALONE_gyronny := He.valsB_ok e0 (q := ("gyronny", .int 7)) (by simp)
    i_BETWEEN := He.int_ok X G (fact_of c.d 1 rfl)
    g_CHARGES := He.glo_ok X G (fact_of c.d 2 rfl)
    t_CHARGES := fun H => He.tupB_ok e2 H
    i_CLOSING := He.int_ok X G (fact_of c.d 3 rfl)
    i_COMMA := He.int_ok X G (fact_of c.d 4 rfl)
    g_COUNTS := He.glo_ok X G (fact_of c.d 5 rfl)
    t_COUNTS := fun H => He.tupB_ok e3 H
    y_COUNTS := tupDB_ok e4
    i_END := He.int_ok X G (fact_of c.d 6 rfl)
    i_GROUP := He.int_ok X G (fact_of c.d 7 rfl)
    g_KINDS := He.glo_ok X G (fact_of c.d 8 rfl)
    k_KINDS := c.tab 1 rfl
    u_KINDS := keysB_ok e6 (c.tab 1 rfl)
    v_KINDS_quarterly := He.valsB_ok e5 (q := ("quarterly", .int 1)) (by simp)
    v_KINDS_impaled := He.valsB_ok e5 (q := ("impaled", .int 2)) (by simp)
    v_KINDS_pretence := He.valsB_ok e5 (q := ("pretence", .int 3)) (by simp)
    z_LETTERS := He.str_ok X G (fact_of c.d 9 rfl)
    g_LINES := He.glo_ok X G (fact_of c.d 10 rfl)
    t_LINES := fun H => He.tupB_ok e7 H
    y_LINES := tupDB_ok e8
    i_LIST_CLOSING := He.int_ok X G (fact_of c.d 11 rfl)
    i_LIST_OPENING := He.int_ok X G (fact_of c.d 12 rfl)
    g_MANNERS := He.glo_ok X G (fact_of c.d 13 rfl)
    t_MANNERS := fun H => He.tupB_ok e9 H
    y_MANNERS := tupDB_ok e10
    i_MARKED := He.int_ok X G (fact_of c.d 14 rfl)
    i_MOST_COATS := He.int_ok X G (fact_of c.d 15 rfl)
    i_MOST_DEEP := He.int_ok X G (fact_of c.d 16 rfl)
    i_MOST_LAYERS := He.int_ok X G (fact_of c.d 17 rfl)
    i_MOST_MARKS := He.int_ok X G (fact_of c.d 18 rfl)
    i_NUMBER := He.int_ok X G (fact_of c.d 19 rfl)
    i_OPENING := He.int_ok X G (fact_of c.d 20 rfl)
    g_ORDINARIES := He.glo_ok X G (fact_of c.d 21 rfl)
    t_ORDINARIES := fun H => He.tupB_ok e11 H
    y_ORDINARIES := tupDB_ok e12
    i_ORDINARY := He.int_ok X G (fact_of c.d 22 rfl)
    i_PARTED := He.int_ok X G (fact_of c.d 23 rfl)
    i_PLAIN := He.int_ok X G (fact_of c.d 24 rfl)
    i_POINT := He.int_ok X G (fact_of c.d 25 rfl)
    i_QUARTERLY := He.int_ok X G (fact_of c.d 26 rfl)
    z_SEVERAL := He.str_ok X G (fact_of c.d 27 rfl)
    g_SIZES := He.glo_ok X G (fact_of c.d 28 rfl)
    t_SIZES := fun H => He.tupB_ok e13 H
    y_SIZES := tupDB_ok e14
    g_TINCTURES := He.glo_ok X G (fact_of c.d 29 rfl)
    t_TINCTURES := fun H => He.tupB_ok e15 H
    y_TINCTURES := tupDB_ok e16
    i_VARIED := He.int_ok X G (fact_of c.d 30 rfl)
    g_VARIETIES := He.glo_ok X G (fact_of c.d 31 rfl)
    t_VARIETIES := fun H => He.tupB_ok e17 H
    y_VARIETIES := tupDB_ok e18
    z_VOWELS := He.str_ok X G (fact_of c.d 32 rfl)
    g_WAYS := He.glo_ok X G (fact_of c.d 33 rfl)
    t_WAYS := fun H => He.tupB_ok e19 H
    y_WAYS := tupDB_ok e20
    i_WORD := He.int_ok X G (fact_of c.d 34 rfl)
    f_len := He.free_ok X G (fact_of c.d 35 rfl)
    f_list := He.free_ok X G (fact_of c.d 36 rfl)
    f_tuple := He.free_ok X G (fact_of c.d 37 rfl)
    g_Layer := He.glo_ok X G (fact_of c.d 38 rfl)
    di_Layer := by
      obtain ⟨fd, D⟩ := c.d.def_ 0 (d := dd_Layer_init) rfl
      exact ⟨fd, D, FunD.bindsN D fun _ _ _ _ _ _ us hl => match us, hl with | [_, _, _, _], _ => rfl⟩
    c_Layer := He.cls_ok (fact_of c.d 39 rfl)
    m_Layer := He.mkr_ok (fact_of c.d 40 rfl)
    n_Layer_kind := He.noat_ok (fact_of c.d 41 rfl)
    n_Layer_numbers := He.noat_ok (fact_of c.d 42 rfl)
    n_Layer_fill := He.noat_ok (fact_of c.d 43 rfl)
    g_Arms := He.glo_ok X G (fact_of c.d 44 rfl)
    di_Arms := by
      obtain ⟨fd, D⟩ := c.d.def_ 1 (d := dd_Arms_init) rfl
      exact ⟨fd, D, FunD.bindsN D fun _ _ _ _ _ _ us hl => match us, hl with | [_, _], _ => rfl⟩
    c_Arms := He.cls_ok (fact_of c.d 45 rfl)
    m_Arms := He.mkr_ok (fact_of c.d 46 rfl)
    n_Arms_field := He.noat_ok (fact_of c.d 47 rfl)
    n_Arms_layers := He.noat_ok (fact_of c.d 48 rfl)
    g_Coat := He.glo_ok X G (fact_of c.d 49 rfl)
    di_Coat := by
      obtain ⟨fd, D⟩ := c.d.def_ 2 (d := dd_Coat_init) rfl
      exact ⟨fd, D, FunD.bindsN D fun _ _ _ _ _ _ us hl => match us, hl with | [_, _], _ => rfl⟩
    c_Coat := He.cls_ok (fact_of c.d 50 rfl)
    m_Coat := He.mkr_ok (fact_of c.d 51 rfl)
    n_Coat_kind := He.noat_ok (fact_of c.d 52 rfl)
    n_Coat_arms := He.noat_ok (fact_of c.d 53 rfl)
    n_Coat_canton := He.noat_ok (fact_of c.d 54 rfl)
    n_Coat_marks := He.noat_ok (fact_of c.d 55 rfl)
    n_Coat_coats := He.noat_ok (fact_of c.d 56 rfl)
    g_Fault := He.glo_ok X G (fact_of c.d 57 rfl)
    di_Fault := by
      obtain ⟨fd, D⟩ := c.d.def_ 3 (d := dd_Fault_init) rfl
      exact ⟨fd, D, FunD.bindsN D fun _ _ _ _ _ _ us hl => match us, hl with | [_, _, _], _ => rfl⟩
    x_Fault := errB_ok e21
    g_Token := He.glo_ok X G (fact_of c.d 58 rfl)
    di_Token := by
      obtain ⟨fd, D⟩ := c.d.def_ 4 (d := dd_Token_init) rfl
      exact ⟨fd, D, FunD.bindsN D fun _ _ _ _ _ _ us hl => match us, hl with | [_, _, _, _, _], _ => rfl⟩
    c_Token := He.cls_ok (fact_of c.d 59 rfl)
    m_Token := He.mkr_ok (fact_of c.d 60 rfl)
    n_Token_kind := He.noat_ok (fact_of c.d 61 rfl)
    n_Token_value := He.noat_ok (fact_of c.d 62 rfl)
    n_Token_place := He.noat_ok (fact_of c.d 63 rfl)
    n_Token_behind := He.noat_ok (fact_of c.d 64 rfl)
    g_Reader := He.glo_ok X G (fact_of c.d 65 rfl)
    di_Reader := by
      obtain ⟨fd, D⟩ := c.d.def_ 5 (d := dd_Reader_init) rfl
      exact ⟨fd, D, FunD.bindsN D fun _ _ _ _ _ _ us hl => match us, hl with | [_, _, _, _], _ => rfl⟩
    c_Reader := He.cls_ok (fact_of c.d 66 rfl)
    m_Reader := He.mkr_ok (fact_of c.d 67 rfl)
    n_Reader_some := He.noat_ok (fact_of c.d 68 rfl)
    n_Reader_at := He.noat_ok (fact_of c.d 69 rfl)
    n_Reader_end := He.noat_ok (fact_of c.d 70 rfl)
    g_Words := He.glo_ok X G (fact_of c.d 71 rfl)
    di_Words := by
      obtain ⟨fd, D⟩ := c.d.def_ 6 (d := dd_Words_init) rfl
      exact ⟨fd, D, FunD.bindsN D fun _ _ _ _ _ _ us hl => match us, hl with | [_, _], _ => rfl⟩
    c_Words := He.cls_ok (fact_of c.d 72 rfl)
    m_Words := He.mkr_ok (fact_of c.d 73 rfl)
    n_Words_some := He.noat_ok (fact_of c.d 74 rfl)
    n_Words_at := He.noat_ok (fact_of c.d 75 rfl)
    d_is_letter := by
      obtain ⟨fd, D⟩ := c.d.def_ 7 (d := dd_is_letter) rfl
      exact ⟨⟨fd, D, FunD.bindsN D fun _ _ _ _ _ _ us hl => match us, hl with | [_], _ => rfl⟩, He.glo_ok X G (fact_of c.d 76 rfl)⟩
    d_is_digit := by
      obtain ⟨fd, D⟩ := c.d.def_ 8 (d := dd_is_digit) rfl
      exact ⟨⟨fd, D, FunD.bindsN D fun _ _ _ _ _ _ us hl => match us, hl with | [_], _ => rfl⟩, He.glo_ok X G (fact_of c.d 77 rfl)⟩
    d_is_blank := by
      obtain ⟨fd, D⟩ := c.d.def_ 9 (d := dd_is_blank) rfl
      exact ⟨⟨fd, D, FunD.bindsN D fun _ _ _ _ _ _ us hl => match us, hl with | [_], _ => rfl⟩, He.glo_ok X G (fact_of c.d 78 rfl)⟩
    d_text_of := by
      obtain ⟨fd, D⟩ := c.d.def_ 10 (d := dd_text_of) rfl
      exact ⟨⟨fd, D, FunD.bindsN D fun _ _ _ _ _ _ us hl => match us, hl with | [_], _ => rfl⟩, He.glo_ok X G (fact_of c.d 79 rfl)⟩
    d_behind_letters := by
      obtain ⟨fd, D⟩ := c.d.def_ 11 (d := dd_behind_letters) rfl
      exact ⟨⟨fd, D, FunD.bindsN D fun _ _ _ _ _ _ us hl => match us, hl with | [_, _, _], _ => rfl⟩, He.glo_ok X G (fact_of c.d 80 rfl)⟩
    d_behind_digits := by
      obtain ⟨fd, D⟩ := c.d.def_ 12 (d := dd_behind_digits) rfl
      exact ⟨⟨fd, D, FunD.bindsN D fun _ _ _ _ _ _ us hl => match us, hl with | [_, _, _], _ => rfl⟩, He.glo_ok X G (fact_of c.d 81 rfl)⟩
    d_behind_blanks := by
      obtain ⟨fd, D⟩ := c.d.def_ 13 (d := dd_behind_blanks) rfl
      exact ⟨⟨fd, D, FunD.bindsN D fun _ _ _ _ _ _ us hl => match us, hl with | [_, _, _], _ => rfl⟩, He.glo_ok X G (fact_of c.d 82 rfl)⟩
    d_number_of := by
      obtain ⟨fd, D⟩ := c.d.def_ 14 (d := dd_number_of) rfl
      exact ⟨⟨fd, D, FunD.bindsN D fun _ _ _ _ _ _ us hl => match us, hl with | [_], _ => rfl⟩, He.glo_ok X G (fact_of c.d 83 rfl)⟩
    d_number_token := by
      obtain ⟨fd, D⟩ := c.d.def_ 15 (d := dd_number_token) rfl
      exact ⟨⟨fd, D, FunD.bindsN D fun _ _ _ _ _ _ us hl => match us, hl with | [_, _], _ => rfl⟩, He.glo_ok X G (fact_of c.d 84 rfl)⟩
    d_ahead := by
      obtain ⟨fd, D⟩ := c.d.def_ 16 (d := dd_ahead) rfl
      exact ⟨⟨fd, D, FunD.bindsN D fun _ _ _ _ _ _ us hl => match us, hl with | [_], _ => rfl⟩, He.glo_ok X G (fact_of c.d 85 rfl)⟩
    d_pass_token := by
      obtain ⟨fd, D⟩ := c.d.def_ 17 (d := dd_pass_token) rfl
      exact ⟨⟨fd, D, FunD.bindsN D fun _ _ _ _ _ _ us hl => match us, hl with | [_], _ => rfl⟩, He.glo_ok X G (fact_of c.d 86 rfl)⟩
    d_is_next := by
      obtain ⟨fd, D⟩ := c.d.def_ 18 (d := dd_is_next) rfl
      exact ⟨⟨fd, D, FunD.bindsN D fun _ _ _ _ _ _ us hl => match us, hl with | [_, _], _ => rfl⟩, He.glo_ok X G (fact_of c.d 87 rfl)⟩
    d_want := by
      obtain ⟨fd, D⟩ := c.d.def_ 19 (d := dd_want) rfl
      exact ⟨⟨fd, D, FunD.bindsN D fun _ _ _ _ _ _ us hl => match us, hl with | [_, _], _ => rfl⟩, He.glo_ok X G (fact_of c.d 88 rfl)⟩
    d_take := by
      obtain ⟨fd, D⟩ := c.d.def_ 20 (d := dd_take) rfl
      exact ⟨⟨fd, D, FunD.bindsN D fun _ _ _ _ _ _ us hl => match us, hl with | [_, _], _ => rfl⟩, He.glo_ok X G (fact_of c.d 89 rfl)⟩
    d_with_sinister := by
      obtain ⟨fd, D⟩ := c.d.def_ 21 (d := dd_with_sinister) rfl
      exact ⟨⟨fd, D, FunD.bindsN D fun _ _ _ _ _ _ us hl => match us, hl with | [_, _], _ => rfl⟩, He.glo_ok X G (fact_of c.d 90 rfl)⟩
    d_read_line := by
      obtain ⟨fd, D⟩ := c.d.def_ 22 (d := dd_read_line) rfl
      exact ⟨⟨fd, D, FunD.bindsN D fun _ _ _ _ _ _ us hl => match us, hl with | [_], _ => rfl⟩, He.glo_ok X G (fact_of c.d 91 rfl)⟩
    d_read_tinctures := by
      obtain ⟨fd, D⟩ := c.d.def_ 23 (d := dd_read_tinctures) rfl
      exact ⟨⟨fd, D, FunD.bindsN D fun _ _ _ _ _ _ us hl => match us, hl with | [_], _ => rfl⟩, He.glo_ok X G (fact_of c.d 92 rfl)⟩
    d_read_varied := by
      obtain ⟨fd, D⟩ := c.d.def_ 24 (d := dd_read_varied) rfl
      exact ⟨⟨fd, D, FunD.bindsN D fun _ _ _ _ _ _ us hl => match us, hl with | [_, _], _ => rfl⟩, He.glo_ok X G (fact_of c.d 93 rfl)⟩
    d_read_parted := by
      obtain ⟨fd, D⟩ := c.d.def_ 25 (d := dd_read_parted) rfl
      exact ⟨⟨fd, D, FunD.bindsN D fun _ _ _ _ _ _ us hl => match us, hl with | [_, _], _ => rfl⟩, He.glo_ok X G (fact_of c.d 94 rfl)⟩
    d_read_field := by
      obtain ⟨fd, D⟩ := c.d.def_ 26 (d := dd_read_field) rfl
      exact ⟨⟨fd, D, FunD.bindsN D fun _ _ _ _ _ _ us hl => match us, hl with | [_], _ => rfl⟩, He.glo_ok X G (fact_of c.d 95 rfl)⟩
    d_read_fill := by
      obtain ⟨fd, D⟩ := c.d.def_ 27 (d := dd_read_fill) rfl
      exact ⟨⟨fd, D, FunD.bindsN D fun _ _ _ _ _ _ us hl => match us, hl with | [_, _], _ => rfl⟩, He.glo_ok X G (fact_of c.d 96 rfl)⟩
    d_read_manner := by
      obtain ⟨fd, D⟩ := c.d.def_ 28 (d := dd_read_manner) rfl
      exact ⟨⟨fd, D, FunD.bindsN D fun _ _ _ _ _ _ us hl => match us, hl with | [_], _ => rfl⟩, He.glo_ok X G (fact_of c.d 97 rfl)⟩
    d_look_at_article := by
      obtain ⟨fd, D⟩ := c.d.def_ 29 (d := dd_look_at_article) rfl
      exact ⟨⟨fd, D, FunD.bindsN D fun _ _ _ _ _ _ us hl => match us, hl with | [_, _], _ => rfl⟩, He.glo_ok X G (fact_of c.d 98 rfl)⟩
    d_several_names := by
      obtain ⟨fd, D⟩ := c.d.def_ 30 (d := dd_several_names) rfl
      exact ⟨⟨fd, D, FunD.bindsN D fun _ _ _ _ _ _ us hl => match us, hl with | [], _ => rfl⟩, He.glo_ok X G (fact_of c.d 99 rfl)⟩
    d_read_group := by
      obtain ⟨fd, D⟩ := c.d.def_ 31 (d := dd_read_group) rfl
      exact ⟨⟨fd, D, FunD.bindsN D fun _ _ _ _ _ _ us hl => match us, hl with | [_, _, _, _], _ => rfl⟩, He.glo_ok X G (fact_of c.d 100 rfl)⟩
    d_read_ordinary := by
      obtain ⟨fd, D⟩ := c.d.def_ 32 (d := dd_read_ordinary) rfl
      exact ⟨⟨fd, D, FunD.bindsN D fun _ _ _ _ _ _ us hl => match us, hl with | [_, _], _ => rfl⟩, He.glo_ok X G (fact_of c.d 101 rfl)⟩
    d_read_layer := by
      obtain ⟨fd, D⟩ := c.d.def_ 33 (d := dd_read_layer) rfl
      exact ⟨⟨fd, D, FunD.bindsN D fun _ _ _ _ _ _ us hl => match us, hl with | [_, _], _ => rfl⟩, He.glo_ok X G (fact_of c.d 102 rfl)⟩
    d_read_blazon := by
      obtain ⟨fd, D⟩ := c.d.def_ 34 (d := dd_read_blazon) rfl
      exact ⟨⟨fd, D, FunD.bindsN D fun _ _ _ _ _ _ us hl => match us, hl with | [_, _, _], _ => rfl⟩, He.glo_ok X G (fact_of c.d 103 rfl)⟩
    d_layer_bytes := by
      obtain ⟨fd, D⟩ := c.d.def_ 35 (d := dd_layer_bytes) rfl
      exact ⟨⟨fd, D, FunD.bindsN D fun _ _ _ _ _ _ us hl => match us, hl with | [_], _ => rfl⟩, He.glo_ok X G (fact_of c.d 104 rfl)⟩
    d_arms_bytes := by
      obtain ⟨fd, D⟩ := c.d.def_ 36 (d := dd_arms_bytes) rfl
      exact ⟨⟨fd, D, FunD.bindsN D fun _ _ _ _ _ _ us hl => match us, hl with | [_], _ => rfl⟩, He.glo_ok X G (fact_of c.d 105 rfl)⟩
    d_marked_bytes := by
      obtain ⟨fd, D⟩ := c.d.def_ 37 (d := dd_marked_bytes) rfl
      exact ⟨⟨fd, D, FunD.bindsN D fun _ _ _ _ _ _ us hl => match us, hl with | [_], _ => rfl⟩, He.glo_ok X G (fact_of c.d 106 rfl)⟩
    d_coat_bytes := by
      obtain ⟨fd, D⟩ := c.d.def_ 38 (d := dd_coat_bytes) rfl
      exact ⟨⟨fd, D, FunD.bindsN D fun _ _ _ _ _ _ us hl => match us, hl with | [_], _ => rfl⟩, He.glo_ok X G (fact_of c.d 107 rfl)⟩
    d_byte_at := by
      obtain ⟨fd, D⟩ := c.d.def_ 39 (d := dd_byte_at) rfl
      exact ⟨⟨fd, D, FunD.bindsN D fun _ _ _ _ _ _ us hl => match us, hl with | [_, _], _ => rfl⟩, He.glo_ok X G (fact_of c.d 108 rfl)⟩
    d_pass_blanks := by
      obtain ⟨fd, D⟩ := c.d.def_ 40 (d := dd_pass_blanks) rfl
      exact ⟨⟨fd, D, FunD.bindsN D fun _ _ _ _ _ _ us hl => match us, hl with | [_], _ => rfl⟩, He.glo_ok X G (fact_of c.d 109 rfl)⟩
    d_take_sign := by
      obtain ⟨fd, D⟩ := c.d.def_ 41 (d := dd_take_sign) rfl
      exact ⟨⟨fd, D, FunD.bindsN D fun _ _ _ _ _ _ us hl => match us, hl with | [_, _], _ => rfl⟩, He.glo_ok X G (fact_of c.d 110 rfl)⟩
    d_word_ahead := by
      obtain ⟨fd, D⟩ := c.d.def_ 42 (d := dd_word_ahead) rfl
      exact ⟨⟨fd, D, FunD.bindsN D fun _ _ _ _ _ _ us hl => match us, hl with | [_], _ => rfl⟩, He.glo_ok X G (fact_of c.d 111 rfl)⟩
    d_read_arms := by
      obtain ⟨fd, D⟩ := c.d.def_ 43 (d := dd_read_arms) rfl
      exact ⟨⟨fd, D, FunD.bindsN D fun _ _ _ _ _ _ us hl => match us, hl with | [_], _ => rfl⟩, He.glo_ok X G (fact_of c.d 112 rfl)⟩
    d_read_number := by
      obtain ⟨fd, D⟩ := c.d.def_ 44 (d := dd_read_number) rfl
      exact ⟨⟨fd, D, FunD.bindsN D fun _ _ _ _ _ _ us hl => match us, hl with | [_], _ => rfl⟩, He.glo_ok X G (fact_of c.d 113 rfl)⟩
    d_read_mark := by
      obtain ⟨fd, D⟩ := c.d.def_ 45 (d := dd_read_mark) rfl
      exact ⟨⟨fd, D, FunD.bindsN D fun _ _ _ _ _ _ us hl => match us, hl with | [_], _ => rfl⟩, He.glo_ok X G (fact_of c.d 114 rfl)⟩
    d_read_marks := by
      obtain ⟨fd, D⟩ := c.d.def_ 46 (d := dd_read_marks) rfl
      exact ⟨⟨fd, D, FunD.bindsN D fun _ _ _ _ _ _ us hl => match us, hl with | [_, _], _ => rfl⟩, He.glo_ok X G (fact_of c.d 115 rfl)⟩
    d_read_marked := by
      obtain ⟨fd, D⟩ := c.d.def_ 47 (d := dd_read_marked) rfl
      exact ⟨⟨fd, D, FunD.bindsN D fun _ _ _ _ _ _ us hl => match us, hl with | [_], _ => rfl⟩, He.glo_ok X G (fact_of c.d 116 rfl)⟩
    d_read_list := by
      obtain ⟨fd, D⟩ := c.d.def_ 48 (d := dd_read_list) rfl
      exact ⟨⟨fd, D, FunD.bindsN D fun _ _ _ _ _ _ us hl => match us, hl with | [_, _, _, _], _ => rfl⟩, He.glo_ok X G (fact_of c.d 117 rfl)⟩
    d_read_coat := by
      obtain ⟨fd, D⟩ := c.d.def_ 49 (d := dd_read_coat) rfl
      exact ⟨⟨fd, D, FunD.bindsN D fun _ _ _ _ _ _ us hl => match us, hl with | [_, _], _ => rfl⟩, He.glo_ok X G (fact_of c.d 118 rfl)⟩
    d_coat_of_words := by
      obtain ⟨fd, D⟩ := c.d.def_ 50 (d := dd_coat_of_words) rfl
      exact ⟨⟨fd, D, FunD.bindsN D fun _ _ _ _ _ _ us hl => match us, hl with | [_], _ => rfl⟩, He.glo_ok X G (fact_of c.d 119 rfl)⟩
    d_read := by
      obtain ⟨fd, D⟩ := c.d.def_ 51 (d := dd_read) rfl
      exact ⟨⟨fd, D, FunD.bindsN D fun _ _ _ _ _ _ us hl => match us, hl with | [_], _ => rfl⟩, He.glo_ok X G (fact_of c.d 120 rfl)⟩ }
end Hc
namespace Hc
open PySem PySem.Spec PyProof.Rows L2
def loose0 : List Str := ["PLAIN", "PARTED", "VARIED", "ORDINARY", "GROUP", "MARKED", "QUARTERLY", "IMPALED", "PRETENCE", "MOST_DEEP", "Layer", "Arms", "Coat", "LETTERS", "VOWELS", "TINCTURES", "LINES", "WAYS", "ALONE", "VARIETIES", "ORDINARIES", "CHARGES", "COUNTS", "SIZES", "MANNERS", "WORD", "NUMBER", "COMMA", "END", "MOST_LAYERS"]
def loose1 : List Str := ["SEVERAL", "Fault", "Token", "Reader", "is_letter", "is_digit", "is_blank", "text_of", "behind_letters", "behind_digits", "behind_blanks", "number_of", "number_token", "ahead", "pass_token", "is_next", "want", "take", "with_sinister", "read_line", "read_tinctures", "read_varied", "read_parted", "read_field", "read_fill", "read_manner", "look_at_article", "several_names", "read_group", "read_ordinary"]
def loose2 : List Str := ["read_layer", "read_blazon", "layer_bytes", "arms_bytes", "marked_bytes", "coat_bytes", "KINDS", "MOST_MARKS", "MOST_COATS", "OPENING", "CLOSING", "POINT", "BETWEEN", "LIST_OPENING", "LIST_CLOSING", "Words", "byte_at", "pass_blanks", "take_sign", "word_ahead", "read_arms", "read_number", "read_mark", "read_marks", "read_marked", "read_list", "read_coat", "coat_of_words"]
def loose : List Str := loose0 ++ loose1 ++ loose2
abbrev R : PySem.W.OpenSpec := PySem.Challenge.rw_heraldcoats_s06_read
abbrev qv : Program := PySem.W.view R.prog [93]
abbrev hk : PySem.W.Hook := hookY 5 fa fn tabs exb
def ob (s : PySem.W.SharedT) : AlY := obsYG 5 fa fn tabs exb (HandSHeadRun.getT s)
theorem ob_eq (s : PySem.W.SharedT) : ob s = hk.obs s.abs := obsYG_eq (HandSHeadRun.getT_eq s)
def RunAt (v : World) : Prop := ∀ os : OsState, (HandSHeadRun.endF (HandSHeadRun.stepQ (HandSHeadRun.denQ HandSHeadRun.tabQ) R.prog v) 6000 R.prog v os).map (fun s => (HandSHeadRun.looksF R.prog (PySem.W.boot_heap v.params) s.abs, HandSHeadRun.seenQ qv loose (importedModules R.prog.main.body) (fun s => PySem.W.xlAt qv [] s && PySem.W.recOk [] s) s.abs, ob s)) = some (true, PySem.W.openGood qv loose, hk.val v)
def setF (w : World) (b : Bool) : World := { w with params := { w.params with followText := fun row => match decide (row = "special-get-raises") with
  | true => b
  | false => w.params.followText row } }
theorem setF_eq (w : World) : setF w (w.params.followText "special-get-raises") = w := by
  have h : (fun row => match decide (row = "special-get-raises") with
    | true => w.params.followText "special-get-raises"
    | false => w.params.followText row) = w.params.followText := by
    funext row
    by_cases c : row = "special-get-raises"
    · rw [decide_eq_true c, c]
    · rw [decide_eq_false c]
  unfold setF
  rw [h]
theorem run_t (w : World) (os : OsState) : (HandSHeadRun.endF (HandSHeadRun.stepQ (HandSHeadRun.denQ HandSHeadRun.tabQ) R.prog (setF w true)) 6000 R.prog (setF w true) os).map (fun s => (HandSHeadRun.looksF R.prog (PySem.W.boot_heap (setF w true).params) s.abs, HandSHeadRun.seenQ qv loose (importedModules R.prog.main.body) (fun s => PySem.W.xlAt qv [] s && PySem.W.recOk [] s) s.abs, ob s)) = some (true, PySem.W.openGood qv loose, hk.val (setF w true)) := by
  kernel_rfl
theorem run_f (w : World) (os : OsState) : (HandSHeadRun.endF (HandSHeadRun.stepQ (HandSHeadRun.denQ HandSHeadRun.tabQ) R.prog (setF w false)) 6000 R.prog (setF w false) os).map (fun s => (HandSHeadRun.looksF R.prog (PySem.W.boot_heap (setF w false).params) s.abs, HandSHeadRun.seenQ qv loose (importedModules R.prog.main.body) (fun s => PySem.W.xlAt qv [] s && PySem.W.recOk [] s) s.abs, ob s)) = some (true, PySem.W.openGood qv loose, hk.val (setF w false)) := by
  kernel_rfl
theorem run_b (w : World) : ∀ b : Bool, RunAt (setF w b)
  | true => fun os => run_t w os
  | false => fun os => run_f w os
theorem run (w : World) (os : OsState) : (HandSHeadRun.endF (HandSHeadRun.stepQ (HandSHeadRun.denQ HandSHeadRun.tabQ) R.prog w) 6000 R.prog w os).map (fun s => (HandSHeadRun.looksF R.prog (PySem.W.boot_heap w.params) s.abs, HandSHeadRun.seenQ qv loose (importedModules R.prog.main.body) (fun s => PySem.W.xlAt qv [] s && PySem.W.recOk [] s) s.abs, ob s)) = some (true, PySem.W.openGood qv loose, hk.val w) := by
  have z := run_b w (w.params.followText "special-get-raises")
  rw [setF_eq] at z
  exact z os
theorem left : PySem.W.LeftO R.prog qv loose (fun s => PySem.W.xlAt qv [] s && PySem.W.recOk [] s) hk.obs hk.val (6000 + 600) true :=
  HandSHeadRun.left_one (M := 6000) (by kernel_rfl) (Nat.ble_eq_true_of_le (by omega)) (fun s => by kernel_rfl) (Nat.ble_eq_true_of_le (by omega)) fun w os => by
    have z := run w os
    have eo : ob = fun s => hk.obs s.abs := funext ob_eq
    rw [eo] at z
    simp only [HandSHeadRun.endQ_eq, HandSHeadRun.seenQ_eq]
    exact z
end Hc
namespace Hc
open PySem PySem.Spec PyProof.Rows L2
open Sh ShMarsh ShBlazon
set_option hygiene false
local macro_rules | `(tactic| walk_at "hp") => `(tactic| first | assumption | exact Src.ob (by assumption) | exact Rdr.ob (by assumption) | exact upd_same)
local macro_rules | `(tactic| walk_at "sq") => `(tactic| first | assumption | exact Src.sq (by assumption) | exact Rdr.sq (by assumption) | exact SqL.of (by assumption) | exact SqL.of upd_same | exact SqT.of (by assumption) | exact SqT.of upd_same)
local macro_rules | `(tactic| walk_at "cl") => `(tactic| with_reducible first | exact T.c_Bytes | exact T.c_Coat | exact T.c_Arms | exact T.c_Layer | exact T.c_Token | exact T.c_Reader | exact T.c_Words)
local macro_rules | `(tactic| walk_at "na") => `(tactic| with_reducible first | exact T.n_Bytes_some | exact T.n_Bytes_at | exact T.n_Coat_kind | exact T.n_Coat_arms | exact T.n_Coat_canton | exact T.n_Coat_marks | exact T.n_Coat_coats | exact T.n_Arms_field | exact T.n_Arms_layers | exact T.n_Layer_kind | exact T.n_Layer_numbers | exact T.n_Layer_fill | exact T.n_Token_kind | exact T.n_Token_value | exact T.n_Token_place | exact T.n_Token_behind | exact T.n_Reader_some | exact T.n_Reader_at | exact T.n_Reader_end | exact T.n_Words_some | exact T.n_Words_at)
local macro_rules | `(tactic| walk_at "ai") => `(tactic| first | assumption | exact atI_nat (by assumption) | rfl)
local macro_rules | `(tactic| walk_at "rd1") => `(tactic| first
  | refine ⟨_, rfl, ?_⟩
  | refine ⟨rfl, ?_⟩
  | refine ⟨_, _, rfl, rfl, ?_⟩
  | refine ⟨_, _, _, _, _, rfl, (by walk_at "hp"), (by walk_at "cl"), (by walk_at "na"), (by rfl), ?_⟩
  | refine ⟨_, _, _, _, rfl, (by walk_at "hp"), (by walk_at "cl"), (by walk_at "na"), Nat.le_of_ble_eq_true rfl, ?_⟩
  | refine ⟨_, _, _, _, rfl, rfl, (by walk_at "sq"), (by walk_at "ai"), ?_⟩
  | refine ⟨_, _, rfl, (by first | exact Or.inl (by walk_at "sq") | exact Or.inr (by walk_at "sq")), ?_⟩
  | refine ⟨(by walk_at "ar"), ?_⟩)
local macro_rules | `(tactic| walk_at "ar") => `(tactic| first | exact (show CDiv _ _ from ⟨by decide, by decide⟩) | exact (show (0 : Int) < _ from by decide) | exact (show CMul _ _ from .inl ⟨by omega, by omega⟩) | exact (show CMul _ _ from .inr ⟨by omega, by omega⟩))
local macro_rules | `(tactic| walk_at "rd") => `(tactic| repeat walk_at "rd1")
local macro_rules | `(tactic| walk_at "fa") => `(tactic| first | exact ⟨_, rfl, (by omega), rfl⟩ | exact ⟨_, _, rfl, (by omega), rfl⟩ | exact ⟨_, _, _, rfl, (by omega), rfl⟩ | exact ⟨_, _, _, _, rfl, (by omega), rfl⟩ | exact ⟨_, _, _, _, _, rfl, (by omega), rfl⟩)
local macro_rules | `(tactic| walk_at "vr") => `(tactic| first
  | exact v_var (by rfl)
  | exact v_c
  | (apply v_i0 <;> walk_at "vr")
  | (apply v_i <;> first | walk_at "ar" | walk_at "vr")
  | (apply v_neg <;> walk_at "vr")
  | (apply v_eq <;> walk_at "vr")
  | (apply v_eqB <;> walk_at "vr")
  | (apply v_ne <;> walk_at "vr")
  | (apply v_neB <;> walk_at "vr")
  | (apply v_chain (g := fun _ _ => _) (g' := fun _ _ => _) <;> walk_at "vr")
  | (apply v_and <;> walk_at "vr")
  | (apply v_or <;> walk_at "vr")
  | (apply v_not <;> walk_at "vr")
  | (apply v_ifI <;> walk_at "vr")
  | (apply v_ifB <;> walk_at "vr")
  | (apply v_call <;> first | walk_at "fa" | walk_at "vr")
  | (apply v_abs <;> walk_at "vr")
  | (apply v_min <;> walk_at "vr")
  | exact va_nil
  | (apply va_cons <;> walk_at "vr")
  | (apply a_test <;> walk_at "vr")
  | (apply a_B <;> walk_at "vr")
  | (apply a_and <;> walk_at "vr")
  | (apply a_or <;> walk_at "vr")
  | (apply a_not <;> walk_at "vr"))
local macro_rules | `(tactic| walk_at "rs") => `(tactic| first
  | (apply r_ret; walk_at "vr")
  | (apply r_set; walk_at "vr"; walk_at "rs")
  | (apply r_ifI; walk_at "vr"; intro _; walk_at "rs"; intro _; walk_at "rs")
  | (apply r_ifB; walk_at "vr"; intro _; walk_at "rs"; intro _; walk_at "rs"))

section
variable {P : Program} {w : World} {K : PySem.W.Frag} {mg : Str → Option Value} {base : Heap}
theorem le_nat {a : Nat} {c : UInt8} : (a : Int) ≤ (c.toNat : Int) ↔ a ≤ c.toNat := by omega
def letN (i : Int) : Bool := decide (97 ≤ i) && decide (i ≤ 122)
def digN (i : Int) : Bool := decide (48 ≤ i) && decide (i ≤ 57)
theorem let_byte (c : UInt8) : letN (c.toNat : Int) = isLetter c := by
  have z : ∀ n : Fin 256, letN ((UInt8.ofNat n.val).toNat : Int) = isLetter (UInt8.ofNat n.val) := by decide +kernel
  have y := z ⟨c.toNat, c.toNat_lt⟩
  simpa using y
theorem dig_byte (c : UInt8) : digN (c.toNat : Int) = isDigit c := by
  have z : ∀ n : Fin 256, digN ((UInt8.ofNat n.val).toNat : Int) = isDigit (UInt8.ofNat n.val) := by decide +kernel
  have y := z ⟨c.toNat, c.toNat_lt⟩
  simpa using y
theorem blk_byte (c : UInt8) : ([V.int 32, V.int 10].any fun y => eqV y (.int (c.toNat : Int))) = isBlank c := by
  have z : ∀ n : Fin 256, ([V.int 32, V.int 10].any fun y => eqV y (.int ((UInt8.ofNat n.val).toNat : Int))) = isBlank (UInt8.ofNat n.val) := by decide +kernel
  have y := z ⟨c.toNat, c.toNat_lt⟩
  simpa using y
def spLet : Sp := fun vs H Q _ => ∃ i : Int, vs = [.int i] ∧ ∀ H', Same H H' → Q (.bl (letN i)) H'
def spDig : Sp := fun vs H Q _ => ∃ i : Int, vs = [.int i] ∧ ∀ H', Same H H' → Q (.bl (digN i)) H'
def spBlk : Sp := fun vs H Q _ => ∃ c : UInt8, vs = [bv c] ∧ ∀ H', Same H H' → Q (.bl (isBlank c)) H'
theorem tw_at {p : UInt8 → Bool} : ∀ {X : List UInt8} {i : Nat}, i ≤ (X.takeWhile p).length → (∀ c, X[i]? = some c → (p c = true → i + 1 ≤ (X.takeWhile p).length) ∧ (p c = false → i = (X.takeWhile p).length)) ∧ (X[i]? = none → i = (X.takeWhile p).length)
  | [], i, h => ⟨fun c e => by simp at e, fun _ => by simpa using h⟩
  | x :: X, 0, _ => by
    refine ⟨fun c e => ?_, fun e => by simp at e⟩
    simp only [List.getElem?_cons_zero, Option.some.injEq] at e
    subst e
    refine ⟨fun hp => ?_, fun hp => ?_⟩
    · rw [List.takeWhile_cons_of_pos hp, List.length_cons]
      omega
    · rw [List.takeWhile_cons_of_neg (by rw [hp]; decide)]
      rfl
  | x :: X, i + 1, h => by
    by_cases hx : p x = true
    · rw [List.takeWhile_cons_of_pos hx, List.length_cons] at h ⊢
      have ih := tw_at (X := X) (i := i) (p := p) (by omega)
      simp only [List.getElem?_cons_succ]
      refine ⟨fun c e => ⟨fun hp => ?_, fun hp => ?_⟩, fun e => ?_⟩
      · have := (ih.1 c e).1 hp
        omega
      · have := (ih.1 c e).2 hp
        omega
      · have := ih.2 e
        omega
    · rw [List.takeWhile_cons_of_neg hx] at h
      simp at h
theorem cut_at {bs : List UInt8} {k e i : Nat} (he : e ≤ bs.length) : (k + i < e → ((bs.take e).drop k)[i]? = bs[k + i]?) ∧ (¬ k + i < e → ((bs.take e).drop k)[i]? = none) := by
  refine ⟨fun h => ?_, fun h => ?_⟩
  · rw [List.getElem?_drop, List.getElem?_take_of_lt h]
  · rw [List.getElem?_drop, List.getElem?_eq_none]
    rw [List.length_take]
    omega
def spBehind (p : UInt8 → Bool) (K : PySem.W.Frag) : Sp := fun vs H Q _ => ∃ (c : Addr) (bs : List UInt8) (k e : Nat), vs = [.ref c, .int (k : Int), .int (e : Int)] ∧ SqL K H c (bs.map bv) ∧ k ≤ e ∧ e ≤ bs.length ∧
  ∀ H', Same H H' → Q (.int ((k + (((bs.take e).drop k).takeWhile p).length : Nat) : Int)) H'
/-- the word of letters: its text -/
def spText (K : PySem.W.Frag) : Sp := fun vs H Q _ => ∃ (a : Addr) (b : List UInt8), vs = [.ref a] ∧ SqL K H a (b.map bv) ∧ (∀ c ∈ b, isLetter c = true) ∧ b.length ≤ 5000 ∧ ∀ H', Same H H' → Q (tv b) H'
def spNum (K : PySem.W.Frag) : Sp := fun vs H Q _ => ∃ (a : Addr) (b : List UInt8), vs = [.ref a] ∧ SqL K H a (b.map bv) ∧ (∀ c ∈ b, isDigit c = true) ∧ b.length ≤ 3 ∧ ∀ H', Same H H' → Q (.int ((valueOf b : Nat) : Int)) H'
/-- a comprehension over a list: texts -/
theorem slistQ {K : PySem.W.Frag} {te : TE} {tl : TE} {a : Addr} {xs : List V} {ys : List (List UInt8)} {j : Nat} {σ : L2.St} {H : Hp} {Q : VK}
    (htl : ∀ Q' : VK, Q' (.ref a) H → tl σ H Q') (hx : SqL K H a xs) (hn : xs.length = ys.length) (h8 : ys.length ≤ 5000)
    (hs : ∀ (i : Nat) (v : V) (b : List UInt8) (H' : Hp) (Q' : VK), xs[i]? = some v → ys[i]? = some b → Same H H' → (∀ H2, Same H' H2 → Q' (tv b) H2) → te ((wipe σ [j]).set j (some v)) H' Q')
    (k : ∀ D H', Same H H' → H' D = some (.lst (ys.map tv)) → Q (.ref D) H') : tLc (iList K tl) (gName j) tYes te [j] σ H Q := by
  refine htl _ ⟨a, rfl, ⟨_, hx⟩, fun D nD => lc_it walk_list (fun i H' => Same H H' ∧ H' D = some (.lst ((ys.take i).map tv))) ⟨Hc.Same.new (Same.refl H) nD, upd_same⟩ (fun i H' _ p => p.1.seq hx) ?_ ?_⟩
  · rintro i x H1 H' hi ⟨sa, hD⟩ ⟨rfl, hxi⟩
    have hi' : i < ys.length := by omega
    refine ⟨?_, ?_⟩
    · show ((σ.set j none).set j (some x)).set j none = σ.set j none
      simp
    · refine hs i x ys[i] H' _ hxi (List.getElem?_eq_getElem hi') sa fun H2 s2 => ?_
      refine ⟨_, s2 _ _ hD, ?_, ?_, ?_⟩
      · rw [List.length_map, List.length_take]
        exact Nat.lt_of_le_of_lt (by omega : _ ≤ 5000) (by decide)
      · intro b o z
        rw [upd_ne (ne_of_none z nD)]
        exact s2 _ _ (sa _ _ z)
      · rw [upd_same, List.take_add_one, List.getElem?_eq_getElem hi', List.map_append]
        rfl
  · rintro H' ⟨sa, hD⟩
    rw [hn, List.take_length] at hD
    exact k D H' sa hD
theorem txs (ts : List (List UInt8)) : (ts.map tx).map V.str = ts.map tv := by
  rw [List.map_map]
  rfl
theorem tx_lens (ts : List (List UInt8)) : ((ts.map tx).map (·.length)).sum = (ts.map List.length).sum := by
  rw [List.map_map]
  congr 1
  apply List.map_congr_left
  intro a _
  exact tx_len a
theorem sum_le {b : Nat} : ∀ {l : List Nat}, (∀ x ∈ l, x ≤ b) → l.sum ≤ l.length * b
  | [], _ => by simp
  | x :: l, h => by
    have ih := sum_le (fun y hy => h y (List.mem_cons_of_mem _ hy)) (l := l) (b := b)
    have hx := h x (List.mem_cons_self ..)
    rw [List.sum_cons, List.length_cons, Nat.add_mul]
    omega
theorem join_single : ∀ b : List UInt8, joinB [] (b.map fun c => [c]) = b
  | [] => rfl
  | [x] => rfl
  | x :: y :: r => by
    have ih := join_single (y :: r)
    show [x] ++ [] ++ joinB [] ((y :: r).map fun c => [c]) = _
    rw [ih]
    rfl
theorem letter_at (c : UInt8) (h : isLetter c = true) : atI (Str.ofString "abcdefghijklmnopqrstuvwxyz").cps.toList ((c.toNat : Int) - 97) = some c.toNat := by
  have z : ∀ n : Fin 256, isLetter (UInt8.ofNat n.val) = true → atI (Str.ofString "abcdefghijklmnopqrstuvwxyz").cps.toList (((UInt8.ofNat n.val).toNat : Int) - 97) = some (UInt8.ofNat n.val).toNat := by decide +kernel
  have y := z ⟨c.toNat, c.toNat_lt⟩
  simp only [UInt8.ofNat_toNat] at y
  exact y h
theorem ok_is_letter (T : Txt w K mg)  : Cal P w K mg base CX0 1 "is_letter" p_is_letter spLet := by
  refine T.d_is_letter.cal sc_is_letter (fun vs H Q E h => by obtain ⟨_, rfl, _⟩ := h; rfl) ?_
  intro cdv A outer s0 H vs Q E hr h
  have nd := sc_is_letter.nd
  have po := poX (CX := CX0) (P := P) (w := w) (K := K) (mg := mg) (base := base) (N := n_is_letter) (q := "is_letter") (sc := defScope s_is_letter) (f := He.ga K "is_letter") (cdv := cdv) (A := A) (outer := outer) (s := s0) (H := H) (E := E)
  refine ⟨_, (pss_one (ps_ret (pe_chain op_le op_le pe_int (pv 0) pe_int))), ?_⟩
  try dsimp only [cxOf]
  clear po nd
  obtain ⟨i, rfl, k⟩ := h
  refine rt_B (b := letN i) (by walk_at "rs") ?_ (k H (Same.refl H))
  rfl
theorem ok_is_digit (T : Txt w K mg)  : Cal P w K mg base CX0 1 "is_digit" p_is_digit spDig := by
  refine T.d_is_digit.cal sc_is_digit (fun vs H Q E h => by obtain ⟨_, rfl, _⟩ := h; rfl) ?_
  intro cdv A outer s0 H vs Q E hr h
  have nd := sc_is_digit.nd
  have po := poX (CX := CX0) (P := P) (w := w) (K := K) (mg := mg) (base := base) (N := n_is_digit) (q := "is_digit") (sc := defScope s_is_digit) (f := He.ga K "is_digit") (cdv := cdv) (A := A) (outer := outer) (s := s0) (H := H) (E := E)
  refine ⟨_, (pss_one (ps_ret (pe_chain op_le op_le pe_int (pv 0) pe_int))), ?_⟩
  try dsimp only [cxOf]
  clear po nd
  obtain ⟨i, rfl, k⟩ := h
  refine rt_B (b := digN i) (by walk_at "rs") ?_ (k H (Same.refl H))
  rfl
theorem ok_is_blank (T : Txt w K mg)  : Cal P w K mg base CX0 1 "is_blank" p_is_blank spBlk := by
  refine T.d_is_blank.cal sc_is_blank (fun vs H Q E h => by obtain ⟨_, rfl, _⟩ := h; rfl) ?_
  intro cdv A outer s0 H vs Q E hr h
  have nd := sc_is_blank.nd
  have po := poX (CX := CX0) (P := P) (w := w) (K := K) (mg := mg) (base := base) (N := n_is_blank) (q := "is_blank") (sc := defScope s_is_blank) (f := He.ga K "is_blank") (cdv := cdv) (A := A) (outer := outer) (s := s0) (H := H) (E := E)
  refine ⟨_, (pss_one (ps_ret (pe_cmpR op_in_seq (pv 0) (pe_tup (pa_cons pe_int (pa_cons pe_int pa_nil))) rfl))), ?_⟩
  try dsimp only [cxOf]
  clear po nd
  obtain ⟨c, rfl, k⟩ := h
  walk_at "rd"
  refine ⟨by show 2 ≤ sizeLine; decide, fun p hp => ⟨p, _, rfl, .inr (SqT.of upd_same), rfl, rfl, ?_⟩⟩
  show Q (.bl (inV _ _)) _
  rw [show inV (bv c) [V.int 32, V.int 10] = isBlank c from blk_byte c]
  exact k _ (Hc.Same.new (Same.refl H) hp)
theorem ok_behind_letters (T : Txt w K mg) (u_is_letter : Cal P w K mg base CX0 1 "is_letter" p_is_letter spLet) : Cal P w K mg base CX0 2 "behind_letters" p_behind_letters (spBehind isLetter K) := by
  refine T.d_behind_letters.cal sc_behind_letters (fun vs H Q E h => by obtain ⟨_, _, _, _, rfl, _⟩ := h; rfl) ?_
  intro cdv A outer s0 H vs Q E hr h
  have nd := sc_behind_letters.nd
  have po := poX (CX := CX0) (P := P) (w := w) (K := K) (mg := mg) (base := base) (N := n_behind_letters) (q := "behind_letters") (sc := defScope s_behind_letters) (f := He.ga K "behind_letters") (cdv := cdv) (A := A) (outer := outer) (s := s0) (H := H) (E := E)
  have h_is_letter : Room (1) _ := hr.mono (by omega)
  refine ⟨_, (pss_cons (ps_while po (PW.pt (pw_and (pt_cmpR op_lt (pv 1) (pv 2) (nomark _)) (pw_and1 (pt_val (pe_cal u_is_letter (h_is_letter) (p0X (E := E0)) (pa_cons (pe_ix ix_list (pv 0) (pv 1) (fun _ _ => rfl)) pa_nil)))))) (pss_one (ps_set (i := 1) nd rfl (Or.inl rfl) (pe_op op_add (pv 1) pe_int))))
      (pss_one (ps_ret (pv 1)))), ?_⟩
  try dsimp only [cxOf]
  clear h_is_letter po nd
  obtain ⟨c, bs, k, e, rfl, hS, hk, he, kQ⟩ := h
  refine ⟨fun m σ H' => ∃ i, σ = [some (.ref c), some (.int ((k + i : Nat) : Int)), some (.int (e : Int))] ∧ Same H H' ∧ i ≤ (((bs.take e).drop k).takeWhile isLetter).length ∧ m = (((bs.take e).drop k).takeWhile isLetter).length - i, ⟨_, 0, rfl, Same.refl H, Nat.zero_le _, rfl⟩, ?_⟩
  rintro m σ H' ⟨i, rfl, sa, hi, rfl⟩
  have tw := tw_at hi
  have hb := cut_at (k := k) (i := i) he
  walk_at "rd"
  refine iteB (fun c1 => ?_) fun c1 => ?_
  · have c1' : k + i < e := by
      have z := of_decide_eq_true c1
      omega
    have hlt : k + i < bs.length := by omega
    have hbi := hb.1 c1'
    rw [List.getElem?_eq_getElem hlt] at hbi
    have hv : (bs.map bv)[k + i]? = some (bv bs[k + i]) := by simp [hlt]
    refine ⟨_, rfl, _, rfl, _, _, _, _, rfl, rfl, sa.seq hS, atI_nat hv, ?_⟩
    refine ⟨_, rfl, fun H2 s2 => ?_⟩
    rw [show letN ((bs[k + i].toNat : Nat) : Int) = isLetter bs[k + i] from let_byte _]
    refine ⟨_, rfl, ?_⟩
    refine iteB (fun c2 => ?_) fun c2 => ?_
    · refine ⟨fun σ' H2 => ∃ j, j = i + 1 ∧ σ' = [some (.ref c), some (.int ((k + j : Nat) : Int)), some (.int (e : Int))] ∧ Same H H2, fun σ' H2 z => ?_, ?_⟩
      · obtain ⟨j, rfl, e1, s3⟩ := z
        have z2 := (tw.1 _ hbi).1 c2
        exact ⟨_, by omega, i + 1, e1, s3, z2, rfl⟩
      · walk_at "rd"
        exact fun b o z => s2 _ _ (sa _ _ z)
    · have z2 := (tw.1 _ hbi).2 c2
      refine ⟨_, rfl, ?_⟩
      rw [z2]
      exact kQ H2 fun b o z => s2 _ _ (sa _ _ z)
  · have c1' : ¬ k + i < e := by
      have z := of_decide_eq_false c1
      omega
    have z2 := tw.2 (hb.2 c1')
    refine ⟨_, rfl, ?_⟩
    rw [z2]
    exact kQ H' sa
theorem ok_behind_digits (T : Txt w K mg) (u_is_digit : Cal P w K mg base CX0 1 "is_digit" p_is_digit spDig) : Cal P w K mg base CX0 2 "behind_digits" p_behind_digits (spBehind isDigit K) := by
  refine T.d_behind_digits.cal sc_behind_digits (fun vs H Q E h => by obtain ⟨_, _, _, _, rfl, _⟩ := h; rfl) ?_
  intro cdv A outer s0 H vs Q E hr h
  have nd := sc_behind_digits.nd
  have po := poX (CX := CX0) (P := P) (w := w) (K := K) (mg := mg) (base := base) (N := n_behind_digits) (q := "behind_digits") (sc := defScope s_behind_digits) (f := He.ga K "behind_digits") (cdv := cdv) (A := A) (outer := outer) (s := s0) (H := H) (E := E)
  have h_is_digit : Room (1) _ := hr.mono (by omega)
  refine ⟨_, (pss_cons (ps_while po (PW.pt (pw_and (pt_cmpR op_lt (pv 1) (pv 2) (nomark _)) (pw_and1 (pt_val (pe_cal u_is_digit (h_is_digit) (p0X (E := E0)) (pa_cons (pe_ix ix_list (pv 0) (pv 1) (fun _ _ => rfl)) pa_nil)))))) (pss_one (ps_set (i := 1) nd rfl (Or.inl rfl) (pe_op op_add (pv 1) pe_int))))
      (pss_one (ps_ret (pv 1)))), ?_⟩
  try dsimp only [cxOf]
  clear h_is_digit po nd
  obtain ⟨c, bs, k, e, rfl, hS, hk, he, kQ⟩ := h
  refine ⟨fun m σ H' => ∃ i, σ = [some (.ref c), some (.int ((k + i : Nat) : Int)), some (.int (e : Int))] ∧ Same H H' ∧ i ≤ (((bs.take e).drop k).takeWhile isDigit).length ∧ m = (((bs.take e).drop k).takeWhile isDigit).length - i, ⟨_, 0, rfl, Same.refl H, Nat.zero_le _, rfl⟩, ?_⟩
  rintro m σ H' ⟨i, rfl, sa, hi, rfl⟩
  have tw := tw_at hi
  have hb := cut_at (k := k) (i := i) he
  walk_at "rd"
  refine iteB (fun c1 => ?_) fun c1 => ?_
  · have c1' : k + i < e := by
      have z := of_decide_eq_true c1
      omega
    have hlt : k + i < bs.length := by omega
    have hbi := hb.1 c1'
    rw [List.getElem?_eq_getElem hlt] at hbi
    have hv : (bs.map bv)[k + i]? = some (bv bs[k + i]) := by simp [hlt]
    refine ⟨_, rfl, _, rfl, _, _, _, _, rfl, rfl, sa.seq hS, atI_nat hv, ?_⟩
    refine ⟨_, rfl, fun H2 s2 => ?_⟩
    rw [show digN ((bs[k + i].toNat : Nat) : Int) = isDigit bs[k + i] from dig_byte _]
    refine ⟨_, rfl, ?_⟩
    refine iteB (fun c2 => ?_) fun c2 => ?_
    · refine ⟨fun σ' H2 => ∃ j, j = i + 1 ∧ σ' = [some (.ref c), some (.int ((k + j : Nat) : Int)), some (.int (e : Int))] ∧ Same H H2, fun σ' H2 z => ?_, ?_⟩
      · obtain ⟨j, rfl, e1, s3⟩ := z
        have z2 := (tw.1 _ hbi).1 c2
        exact ⟨_, by omega, i + 1, e1, s3, z2, rfl⟩
      · walk_at "rd"
        exact fun b o z => s2 _ _ (sa _ _ z)
    · have z2 := (tw.1 _ hbi).2 c2
      refine ⟨_, rfl, ?_⟩
      rw [z2]
      exact kQ H2 fun b o z => s2 _ _ (sa _ _ z)
  · have c1' : ¬ k + i < e := by
      have z := of_decide_eq_false c1
      omega
    have z2 := tw.2 (hb.2 c1')
    refine ⟨_, rfl, ?_⟩
    rw [z2]
    exact kQ H' sa
theorem ok_behind_blanks (T : Txt w K mg) (u_is_blank : Cal P w K mg base CX0 1 "is_blank" p_is_blank spBlk) : Cal P w K mg base CX0 2 "behind_blanks" p_behind_blanks (spBehind isBlank K) := by
  refine T.d_behind_blanks.cal sc_behind_blanks (fun vs H Q E h => by obtain ⟨_, _, _, _, rfl, _⟩ := h; rfl) ?_
  intro cdv A outer s0 H vs Q E hr h
  have nd := sc_behind_blanks.nd
  have po := poX (CX := CX0) (P := P) (w := w) (K := K) (mg := mg) (base := base) (N := n_behind_blanks) (q := "behind_blanks") (sc := defScope s_behind_blanks) (f := He.ga K "behind_blanks") (cdv := cdv) (A := A) (outer := outer) (s := s0) (H := H) (E := E)
  have h_is_blank : Room (1) _ := hr.mono (by omega)
  refine ⟨_, (pss_cons (ps_while po (PW.pt (pw_and (pt_cmpR op_lt (pv 1) (pv 2) (nomark _)) (pw_and1 (pt_val (pe_cal u_is_blank (h_is_blank) (p0X (E := E0)) (pa_cons (pe_ix ix_list (pv 0) (pv 1) (fun _ _ => rfl)) pa_nil)))))) (pss_one (ps_set (i := 1) nd rfl (Or.inl rfl) (pe_op op_add (pv 1) pe_int))))
      (pss_one (ps_ret (pv 1)))), ?_⟩
  try dsimp only [cxOf]
  clear h_is_blank po nd
  obtain ⟨c, bs, k, e, rfl, hS, hk, he, kQ⟩ := h
  refine ⟨fun m σ H' => ∃ i, σ = [some (.ref c), some (.int ((k + i : Nat) : Int)), some (.int (e : Int))] ∧ Same H H' ∧ i ≤ (((bs.take e).drop k).takeWhile isBlank).length ∧ m = (((bs.take e).drop k).takeWhile isBlank).length - i, ⟨_, 0, rfl, Same.refl H, Nat.zero_le _, rfl⟩, ?_⟩
  rintro m σ H' ⟨i, rfl, sa, hi, rfl⟩
  have tw := tw_at hi
  have hb := cut_at (k := k) (i := i) he
  walk_at "rd"
  refine iteB (fun c1 => ?_) fun c1 => ?_
  · have c1' : k + i < e := by
      have z := of_decide_eq_true c1
      omega
    have hlt : k + i < bs.length := by omega
    have hbi := hb.1 c1'
    rw [List.getElem?_eq_getElem hlt] at hbi
    have hv : (bs.map bv)[k + i]? = some (bv bs[k + i]) := by simp [hlt]
    refine ⟨_, rfl, _, rfl, _, _, _, _, rfl, rfl, sa.seq hS, atI_nat hv, ?_⟩
    refine ⟨_, rfl, fun H2 s2 => ?_⟩
    refine ⟨_, rfl, ?_⟩
    refine iteB (fun c2 => ?_) fun c2 => ?_
    · refine ⟨fun σ' H2 => ∃ j, j = i + 1 ∧ σ' = [some (.ref c), some (.int ((k + j : Nat) : Int)), some (.int (e : Int))] ∧ Same H H2, fun σ' H2 z => ?_, ?_⟩
      · obtain ⟨j, rfl, e1, s3⟩ := z
        have z2 := (tw.1 _ hbi).1 c2
        exact ⟨_, by omega, i + 1, e1, s3, z2, rfl⟩
      · walk_at "rd"
        exact fun b o z => s2 _ _ (sa _ _ z)
    · have z2 := (tw.1 _ hbi).2 c2
      refine ⟨_, rfl, ?_⟩
      rw [z2]
      exact kQ H2 fun b o z => s2 _ _ (sa _ _ z)
  · have c1' : ¬ k + i < e := by
      have z := of_decide_eq_false c1
      omega
    have z2 := tw.2 (hb.2 c1')
    refine ⟨_, rfl, ?_⟩
    rw [z2]
    exact kQ H' sa
theorem ok_text_of (T : Txt w K mg)  : Cal P w K mg base CX0 1 "text_of" p_text_of (spText K) := by
  refine T.d_text_of.cal sc_text_of (fun vs H Q E h => by obtain ⟨_, _, rfl, _⟩ := h; rfl) ?_
  intro cdv A outer s0 H vs Q E hr h
  have nd := sc_text_of.nd
  have po := poX (CX := CX0) (P := P) (w := w) (K := K) (mg := mg) (base := base) (N := n_text_of) (q := "text_of") (sc := defScope s_text_of) (f := He.ga K "text_of") (cdv := cdv) (A := A) (outer := outer) (s := s0) (H := H) (E := E)
  refine ⟨_, (pss_one (ps_ret (pe_join pe_str (pe_lc (own := [("byte", 1)]) (g := gName 1) (tt := tYes) rfl nd (pi_list (pv 0)) (blkOk_by (own := [("byte", 1)]) (N := n_text_of) (sc := defScope s_text_of) (by decide +kernel)) (fun _ _ _ _ _ => pg_name (i := 1) nd rfl (Or.inl rfl)) (fun _ _ _ _ _ => pts_nil) (fun _ _ _ _ _ => (pe_ix ix_str (pe_gs T.z_LETTERS) (pe_op op_sub (pv 1) pe_int) (fun _ _ => rfl))))))), ?_⟩
  try dsimp only [cxOf]
  clear po nd
  obtain ⟨a, b, rfl, hS, hl, h5, k⟩ := h
  refine ⟨⟨_, rfl⟩, ?_⟩
  refine slistQ (K := K) (a := a) (xs := b.map bv) (ys := b.map fun c => [c]) (j := 1) (fun Q' q => ⟨_, rfl, q⟩) hS (by rw [List.length_map, List.length_map]) (by rw [List.length_map]; exact h5) (fun i u y H' Q' hu hy sa q => ?_) fun D H' sa hD => ?_
  · rw [List.getElem?_map] at hu hy
    cases e : b[i]? with
    | none => rw [e] at hu; cases hu
    | some ch =>
      rw [e] at hu hy
      injection hu with hu
      injection hy with hy
      subst hu hy
      refine ⟨_, rfl, _, _, rfl, rfl, _, _, _, rfl, rfl, by show 26 ≤ sizeLine; decide, letter_at ch (hl ch (List.mem_of_getElem? e)), ?_⟩
      exact q H' (Same.refl H')
  · have e : Txt.join (Str.ofString "") ((b.map fun c => [c]).map tx) = tx b := by
      rw [show Str.ofString "" = tx [] from rfl, tx_join, join_single]
    refine ⟨Str.ofString "", D, (b.map fun c => [c]).map tx, rfl, rfl, .inl (by rw [txs]; exact SqL.of hD), ?_, ?_⟩
    · rw [tx_lens, show (Str.ofString "").length = 0 from rfl, Nat.mul_zero, List.map_map]
      have z : ((b.map (List.length ∘ fun c => [c]))).sum ≤ (b.map (List.length ∘ fun c => [c])).length * 1 := sum_le fun x hx => by
        obtain ⟨c, _, rfl⟩ := List.mem_map.mp hx
        exact Nat.le_refl 1
      rw [List.length_map] at z
      omega
    · rw [e]
      exact k H' sa
theorem val_step (b : List UInt8) {i : Nat} (hi : i < b.length) (hd : isDigit b[i] = true) : ((valueOf (b.take (i + 1)) : Nat) : Int) = ((valueOf (b.take i) : Nat) : Int) * 10 + ((b[i].toNat : Nat) : Int) - 48 := by
  have e : b.take (i + 1) = b.take i ++ [b[i]] := by
    rw [List.take_add_one, List.getElem?_eq_getElem hi]
    rfl
  unfold valueOf
  rw [e, List.foldl_append]
  show (((10 * _ + (b[i].toNat - 48) : Nat)) : Int) = _
  have h48 : 48 ≤ b[i].toNat := by
    unfold isDigit at hd
    simp only [Bool.and_eq_true, decide_eq_true_eq] at hd
    exact UInt8.le_iff_toNat_le.mp hd.1
  omega
theorem val_lt : ∀ (b : List UInt8) (n : Nat), (∀ c ∈ b, isDigit c = true) → b.foldl (fun (n : Nat) (c : UInt8) => 10 * n + (c.toNat - 48)) n < 10 ^ b.length * (n + 1)
  | [], n, _ => by simp
  | x :: b, n, h => by
    have ih := val_lt b (10 * n + (x.toNat - 48)) fun c hc => h c (List.mem_cons_of_mem _ hc)
    have hx := h x (List.mem_cons_self ..)
    unfold isDigit at hx
    simp only [Bool.and_eq_true, decide_eq_true_eq] at hx
    have h57 := UInt8.le_iff_toNat_le.mp hx.2
    have h57' : x.toNat ≤ 57 := h57
    rw [List.foldl_cons, List.length_cons, Nat.pow_succ]
    refine Nat.lt_of_lt_of_le ih ?_
    rw [Nat.mul_assoc]
    exact Nat.mul_le_mul_left _ (by omega)
theorem ok_number_of (T : Txt w K mg)  : Cal P w K mg base CX0 1 "number_of" p_number_of (spNum K) := by
  refine T.d_number_of.cal sc_number_of (fun vs H Q E h => by obtain ⟨_, _, rfl, _⟩ := h; rfl) ?_
  intro cdv A outer s0 H vs Q E hr h
  have nd := sc_number_of.nd
  have po := poX (CX := CX0) (P := P) (w := w) (K := K) (mg := mg) (base := base) (N := n_number_of) (q := "number_of") (sc := defScope s_number_of) (f := He.ga K "number_of") (cdv := cdv) (A := A) (outer := outer) (s := s0) (H := H) (E := E)
  refine ⟨_, (pss_cons (ps_set (i := 1) nd rfl (Or.inl rfl) pe_int)
      (pss_cons (ps_for po rfl (pi_list (pv 0)) (pg_name (i := 2) nd rfl (Or.inl rfl))
      (pss_one (ps_set (i := 1) nd rfl (Or.inl rfl) (pe_op op_sub (pe_op op_add (pe_op op_mul (pv 1) pe_int) (pv 2)) pe_int))))
      (pss_one (ps_ret (pv 1))))), ?_⟩
  try dsimp only [cxOf]
  clear po nd
  obtain ⟨a, b, rfl, hS, hl, h3, k⟩ := h
  walk_at "rd"
  refine ⟨⟨_, hS⟩, ?_⟩
  refine for_list (K := K) (a := a) (xs := b.map bv) (fun i σ H' => Same H H' ∧ ∃ v2, σ = [some (.ref a), some (.int ((valueOf (b.take i) : Nat) : Int)), v2]) ⟨Same.refl H, none, rfl⟩ (fun i σ H' _ p => p.1.seq hS) ?_ ?_
  · rintro i x σ H' hx ⟨sa, v2, rfl⟩
    rw [List.getElem?_map] at hx
    cases e : b[i]? with
    | none => rw [e] at hx; cases hx
    | some ch =>
      rw [e] at hx
      injection hx with hx
      subst hx
      have hi := (List.getElem?_eq_some_iff.mp e).1
      have ec := (List.getElem?_eq_some_iff.mp e).2
      have hv := val_lt (b.take i) 0 fun c hc => hl c (List.mem_of_mem_take hc)
      have hvb : valueOf (b.take i) < 1000 := by
        have hlen : (b.take i).length ≤ 3 := by rw [List.length_take]; omega
        have hp : 10 ^ (b.take i).length ≤ 10 ^ 3 := Nat.pow_le_pow_right (by decide) hlen
        unfold valueOf
        omega
      refine ⟨_, rfl, _, _, rfl, rfl, .inl ⟨by omega, by omega⟩, _, rfl, _, _, rfl, rfl, _, _, rfl, rfl, sa, some (bv ch), ?_⟩
      rw [val_step b hi (hl _ (List.getElem_mem hi)), ec]
      rfl
  · rintro σ H' ⟨sa, v2, rfl⟩
    rw [List.length_map, List.take_length]
    refine ⟨_, rfl, ?_⟩
    exact k H' sa
theorem ok_Fault_init (T : Txt w K mg) : Exq P w K mg base 1 "Fault" p_Fault_init (spErr2 K "Fault") := by
  refine ⟨T.di_Fault.ok sc_Fault_init (fun vs H Q E h => by obtain ⟨_, _, _, rfl, _⟩ := h; rfl) ?_, T.x_Fault.T, T.x_Fault.iC, T.x_Fault.tI, T.g_Fault⟩
  intro cdv A outer s0 H vs Q E hr h
  refine ⟨_, (pss_cons (ps_ost (pv 0) (pv 1))
      (pss_one (ps_ost (pv 0) (pv 2)))), ?_⟩
  try dsimp only [cxOf]
  obtain ⟨a, v, u, rfl, ha, k⟩ := h
  refine ⟨_, rfl, _, rfl, a, _, rfl, T.x_Fault.T, T.x_Fault.no _ (by simp), .inl ⟨ha, fun dx hd ne => ?_⟩⟩
  refine ⟨_, rfl, _, rfl, a, _, rfl, T.x_Fault.T, T.x_Fault.no _ (by simp), .inr ⟨dx, [("kind", v)], upd_same, (upd_ne ne).trans upd_same, by show 1 ≤ 900; decide, ?_⟩⟩
  exact k dx hd ne _ rfl
theorem ok_Token_init (T : Txt w K mg) : Mak P w K mg base 1 "Token" p_Token_init (spI_Token K) := by
  refine ⟨T.di_Token.ok sc_Token_init (fun vs H Q E h => by obtain ⟨_, _, _, _, _, _, rfl, _⟩ := h; rfl) ?_, T.m_Token, T.g_Token⟩
  intro cdv A outer s0 H vs Q E hr h
  refine ⟨_, (pss_cons (ps_fld (pv 0) (pv 1) rfl)
      (pss_cons (ps_fld (pv 0) (pv 2) rfl)
      (pss_cons (ps_fld (pv 0) (pv 3) rfl)
      (pss_one (ps_fld (pv 0) (pv 4) rfl))))), ?_⟩
  try dsimp only [cxOf]
  obtain ⟨x, dx, a, b, c, d, rfl, hx, k⟩ := h
  walk_at "rd"
  exact k _ (Bt.refl.put.put.put.put) upd_same
theorem ok_Reader_init (T : Txt w K mg) : Mak P w K mg base 1 "Reader" p_Reader_init (spI_Reader K) := by
  refine ⟨T.di_Reader.ok sc_Reader_init (fun vs H Q E h => by obtain ⟨_, _, _, _, _, rfl, _⟩ := h; rfl) ?_, T.m_Reader, T.g_Reader⟩
  intro cdv A outer s0 H vs Q E hr h
  refine ⟨_, (pss_cons (ps_fld (pv 0) (pv 1) rfl)
      (pss_cons (ps_fld (pv 0) (pv 2) rfl)
      (pss_one (ps_fld (pv 0) (pv 3) rfl)))), ?_⟩
  try dsimp only [cxOf]
  obtain ⟨x, dx, a, b, c, rfl, hx, k⟩ := h
  walk_at "rd"
  exact k _ (Bt.refl.put.put.put) upd_same
theorem ok_Words_init (T : Txt w K mg) : Mak P w K mg base 1 "Words" p_Words_init (spI_Bytes K "Words") := by
  refine ⟨T.di_Words.ok sc_Words_init (fun vs H Q E h => by obtain ⟨_, _, _, rfl, _⟩ := h; rfl) ?_, T.m_Words, T.g_Words⟩
  intro cdv A outer s0 H vs Q E hr h
  refine ⟨_, (pss_cons (ps_fld (pv 0) (pv 1) rfl)
      (pss_one (ps_fld (pv 0) pe_int rfl))), ?_⟩
  try dsimp only [cxOf]
  obtain ⟨x, dx, c, rfl, hx, k⟩ := h
  walk_at "rd"
  exact k _ (Bt.refl.put.put) upd_same
end
end Hc

namespace Hc
open PySem PySem.Spec PyProof.Rows L2
open Sh ShMarsh
set_option hygiene false
local macro_rules | `(tactic| walk_at "hp") => `(tactic| first | assumption | exact Src.ob (by assumption) | exact Rdr.ob (by assumption) | exact upd_same)
local macro_rules | `(tactic| walk_at "sq") => `(tactic| first | assumption | exact Src.sq (by assumption) | exact Rdr.sq (by assumption) | exact SqL.of (by assumption) | exact SqL.of upd_same | exact SqT.of (by assumption) | exact SqT.of upd_same)
local macro_rules | `(tactic| walk_at "cl") => `(tactic| with_reducible first | exact T.c_Bytes | exact T.c_Coat | exact T.c_Arms | exact T.c_Layer | exact T.c_Token | exact T.c_Reader | exact T.c_Words)
local macro_rules | `(tactic| walk_at "na") => `(tactic| with_reducible first | exact T.n_Bytes_some | exact T.n_Bytes_at | exact T.n_Coat_kind | exact T.n_Coat_arms | exact T.n_Coat_canton | exact T.n_Coat_marks | exact T.n_Coat_coats | exact T.n_Arms_field | exact T.n_Arms_layers | exact T.n_Layer_kind | exact T.n_Layer_numbers | exact T.n_Layer_fill | exact T.n_Token_kind | exact T.n_Token_value | exact T.n_Token_place | exact T.n_Token_behind | exact T.n_Reader_some | exact T.n_Reader_at | exact T.n_Reader_end | exact T.n_Words_some | exact T.n_Words_at)
local macro_rules | `(tactic| walk_at "ai") => `(tactic| first | assumption | exact atI_nat (by assumption) | rfl)
local macro_rules | `(tactic| walk_at "rd1") => `(tactic| first
  | refine ⟨_, rfl, ?_⟩
  | refine ⟨rfl, ?_⟩
  | refine ⟨_, _, rfl, rfl, ?_⟩
  | refine ⟨_, _, _, _, _, rfl, (by walk_at "hp"), (by walk_at "cl"), (by walk_at "na"), (by rfl), ?_⟩
  | refine ⟨_, _, _, _, rfl, (by walk_at "hp"), (by walk_at "cl"), (by walk_at "na"), Nat.le_of_ble_eq_true rfl, ?_⟩
  | refine ⟨_, _, _, _, rfl, rfl, (by walk_at "sq"), (by walk_at "ai"), ?_⟩
  | refine ⟨_, _, rfl, (by first | exact Or.inl (by walk_at "sq") | exact Or.inr (by walk_at "sq")), ?_⟩
  | refine ⟨(by walk_at "ar"), ?_⟩)
local macro_rules | `(tactic| walk_at "ar") => `(tactic| first | exact (show CDiv _ _ from ⟨by decide, by decide⟩) | exact (show (0 : Int) < _ from by decide) | exact (show CMul _ _ from .inl ⟨by omega, by omega⟩) | exact (show CMul _ _ from .inr ⟨by omega, by omega⟩))
local macro_rules | `(tactic| walk_at "rd") => `(tactic| repeat walk_at "rd1")
local macro_rules | `(tactic| walk_at "fa") => `(tactic| first | exact ⟨_, rfl, (by omega), rfl⟩ | exact ⟨_, _, rfl, (by omega), rfl⟩ | exact ⟨_, _, _, rfl, (by omega), rfl⟩ | exact ⟨_, _, _, _, rfl, (by omega), rfl⟩ | exact ⟨_, _, _, _, _, rfl, (by omega), rfl⟩)
local macro_rules | `(tactic| walk_at "vr") => `(tactic| first
  | exact v_var (by rfl)
  | exact v_c
  | (apply v_i0 <;> walk_at "vr")
  | (apply v_i <;> first | walk_at "ar" | walk_at "vr")
  | (apply v_neg <;> walk_at "vr")
  | (apply v_eq <;> walk_at "vr")
  | (apply v_eqB <;> walk_at "vr")
  | (apply v_ne <;> walk_at "vr")
  | (apply v_neB <;> walk_at "vr")
  | (apply v_chain (g := fun _ _ => _) (g' := fun _ _ => _) <;> walk_at "vr")
  | (apply v_and <;> walk_at "vr")
  | (apply v_or <;> walk_at "vr")
  | (apply v_not <;> walk_at "vr")
  | (apply v_ifI <;> walk_at "vr")
  | (apply v_ifB <;> walk_at "vr")
  | (apply v_call <;> first | walk_at "fa" | walk_at "vr")
  | (apply v_abs <;> walk_at "vr")
  | (apply v_min <;> walk_at "vr")
  | exact va_nil
  | (apply va_cons <;> walk_at "vr")
  | (apply a_test <;> walk_at "vr")
  | (apply a_B <;> walk_at "vr")
  | (apply a_and <;> walk_at "vr")
  | (apply a_or <;> walk_at "vr")
  | (apply a_not <;> walk_at "vr"))
local macro_rules | `(tactic| walk_at "rs") => `(tactic| first
  | (apply r_ret; walk_at "vr")
  | (apply r_set; walk_at "vr"; walk_at "rs")
  | (apply r_ifI; walk_at "vr"; intro _; walk_at "rs"; intro _; walk_at "rs")
  | (apply r_ifB; walk_at "vr"; intro _; walk_at "rs"; intro _; walk_at "rs"))

section
variable {P : Program} {w : World} {K : PySem.W.Frag} {mg : Str → Option Value} {base : Heap}
theorem ok_Layer_init (T : Txt w K mg) : Mak P w K mg base 1 "Layer" p_Layer_init (spI_Layer K) := by
  refine ⟨T.di_Layer.ok sc_Layer_init (fun vs H Q E h => by obtain ⟨_, _, _, _, _, rfl, _⟩ := h; rfl) ?_, T.m_Layer, T.g_Layer⟩
  intro cdv A outer s0 H vs Q E hr h
  refine ⟨_, (pss_cons (ps_fld (pv 0) (pv 1) rfl)
      (pss_cons (ps_fld (pv 0) (pv 2) rfl)
      (pss_one (ps_fld (pv 0) (pv 3) rfl)))), ?_⟩
  try dsimp only [cxOf]
  obtain ⟨x, dx, a, b, c, rfl, hx, k⟩ := h
  walk_at "rd"
  exact k _ (Bt.refl.put.put.put) upd_same
theorem ok_Arms_init (T : Txt w K mg) : Mak P w K mg base 1 "Arms" p_Arms_init (spI_Arms K) := by
  refine ⟨T.di_Arms.ok sc_Arms_init (fun vs H Q E h => by obtain ⟨_, _, _, rfl, _⟩ := h; rfl) ?_, T.m_Arms, T.g_Arms⟩
  intro cdv A outer s0 H vs Q E hr h
  refine ⟨_, (pss_cons (ps_fld (pv 0) (pv 1) rfl)
      (pss_one (ps_fld (pv 0) (pe_lst pa_nil) rfl))), ?_⟩
  try dsimp only [cxOf]
  obtain ⟨x, dx, f, rfl, hx, k⟩ := h
  walk_at "rd"
  refine ⟨Nat.zero_le _, fun l hl => ?_⟩
  have nl : l ≠ x := fun z => by
    rw [z, upd_same] at hl
    cases hl
  have hx1 : upd (upd H x (.ins (He.ga K "Arms") dx [("field", f)])) l (.lst []) x = some (.ins (He.ga K "Arms") dx [("field", f)]) := by
    rw [upd_ne (Ne.symm nl)]
    exact upd_same
  walk_at "rd"
  refine k _ l ((Bt.refl.put.new hl).put) (by rw [upd_ne nl] at hl; exact hl) upd_same ?_
  rw [upd_ne nl]
  exact upd_same
theorem ok_Coat_init (T : Txt w K mg) : Mak P w K mg base 1 "Coat" p_Coat_init (spI_Coat K) := by
  refine ⟨T.di_Coat.ok sc_Coat_init (fun vs H Q E h => by obtain ⟨_, _, _, rfl, _⟩ := h; rfl) ?_, T.m_Coat, T.g_Coat⟩
  intro cdv A outer s0 H vs Q E hr h
  refine ⟨_, (pss_cons (ps_fld (pv 0) (pv 1) rfl)
      (pss_cons (ps_fld (pv 0) pe_non rfl)
      (pss_cons (ps_fld (pv 0) pe_non rfl)
      (pss_cons (ps_fld (pv 0) (pe_lst pa_nil) rfl)
      (pss_one (ps_fld (pv 0) (pe_lst pa_nil) rfl)))))), ?_⟩
  try dsimp only [cxOf]
  obtain ⟨x, dx, n, rfl, hx, k⟩ := h
  walk_at "rd"
  refine ⟨Nat.zero_le _, fun l hl => ?_⟩
  have nl : l ≠ x := fun z => by
    rw [z, upd_same] at hl
    cases hl
  have hl0 : H l = none := by
    rw [upd_ne nl, upd_ne nl, upd_ne nl] at hl
    exact hl
  refine ⟨_, rfl, x, _, dx, [("kind", iv n), ("arms", .non), ("canton", .non)], rfl, (upd_ne (Ne.symm nl)).trans upd_same, T.c_Coat, T.n_Coat_marks, Nat.le_of_ble_eq_true rfl, ?_⟩
  refine ⟨Nat.zero_le _, fun l2 hl2 => ?_⟩
  have nl2 : l2 ≠ x := fun z => by
    rw [z, upd_same] at hl2
    cases hl2
  have nl3 : l2 ≠ l := fun z => by
    rw [z, upd_ne nl, upd_same] at hl2
    cases hl2
  have hl4 : H l2 = none := by
    rw [upd_ne nl2, upd_ne nl3, upd_ne nl2, upd_ne nl2, upd_ne nl2] at hl2
    exact hl2
  refine ⟨_, rfl, x, _, dx, [("kind", iv n), ("arms", .non), ("canton", .non), ("marks", .ref l)], rfl, (upd_ne (Ne.symm nl2)).trans upd_same, T.c_Coat, T.n_Coat_coats, Nat.le_of_ble_eq_true rfl, ?_⟩
  refine k _ l l2 (((Bt.refl.put.put.put.new hl).put.new hl2).put) hl0 hl4 (Ne.symm nl3) upd_same ?_ ?_
  · rw [upd_ne nl, upd_ne (Ne.symm nl3), upd_ne nl]
    exact upd_same
  · rw [upd_ne nl2]
    exact upd_same
end
end Hc

namespace Hc
open PySem PySem.Spec PyProof.Rows L2
open Sh ShMarsh ShBlazon
set_option hygiene false
local macro_rules | `(tactic| walk_at "hp") => `(tactic| first | assumption | exact Src.ob (by assumption) | exact Rdr.ob (by assumption) | exact upd_same)
local macro_rules | `(tactic| walk_at "sq") => `(tactic| first | assumption | exact Src.sq (by assumption) | exact Rdr.sq (by assumption) | exact SqL.of (by assumption) | exact SqL.of upd_same | exact SqT.of (by assumption) | exact SqT.of upd_same)
local macro_rules | `(tactic| walk_at "cl") => `(tactic| with_reducible first | exact T.c_Bytes | exact T.c_Coat | exact T.c_Arms | exact T.c_Layer | exact T.c_Token | exact T.c_Reader | exact T.c_Words)
local macro_rules | `(tactic| walk_at "na") => `(tactic| with_reducible first | exact T.n_Bytes_some | exact T.n_Bytes_at | exact T.n_Coat_kind | exact T.n_Coat_arms | exact T.n_Coat_canton | exact T.n_Coat_marks | exact T.n_Coat_coats | exact T.n_Arms_field | exact T.n_Arms_layers | exact T.n_Layer_kind | exact T.n_Layer_numbers | exact T.n_Layer_fill | exact T.n_Token_kind | exact T.n_Token_value | exact T.n_Token_place | exact T.n_Token_behind | exact T.n_Reader_some | exact T.n_Reader_at | exact T.n_Reader_end | exact T.n_Words_some | exact T.n_Words_at)
local macro_rules | `(tactic| walk_at "ai") => `(tactic| first | assumption | exact atI_nat (by assumption) | rfl)
local macro_rules | `(tactic| walk_at "rd1") => `(tactic| first
  | refine ⟨_, rfl, ?_⟩
  | refine ⟨rfl, ?_⟩
  | refine ⟨_, _, rfl, rfl, ?_⟩
  | refine ⟨_, _, _, _, _, rfl, (by walk_at "hp"), (by walk_at "cl"), (by walk_at "na"), (by rfl), ?_⟩
  | refine ⟨_, _, _, _, rfl, (by walk_at "hp"), (by walk_at "cl"), (by walk_at "na"), Nat.le_of_ble_eq_true rfl, ?_⟩
  | refine ⟨_, _, _, _, rfl, rfl, (by walk_at "sq"), (by walk_at "ai"), ?_⟩
  | refine ⟨_, _, rfl, (by first | exact Or.inl (by walk_at "sq") | exact Or.inr (by walk_at "sq")), ?_⟩
  | refine ⟨(by walk_at "ar"), ?_⟩)
local macro_rules | `(tactic| walk_at "ar") => `(tactic| first | exact (show CDiv _ _ from ⟨by decide, by decide⟩) | exact (show (0 : Int) < _ from by decide) | exact (show CMul _ _ from .inl ⟨by omega, by omega⟩) | exact (show CMul _ _ from .inr ⟨by omega, by omega⟩))
local macro_rules | `(tactic| walk_at "rd") => `(tactic| repeat walk_at "rd1")
local macro_rules | `(tactic| walk_at "fa") => `(tactic| first | exact ⟨_, rfl, (by omega), rfl⟩ | exact ⟨_, _, rfl, (by omega), rfl⟩ | exact ⟨_, _, _, rfl, (by omega), rfl⟩ | exact ⟨_, _, _, _, rfl, (by omega), rfl⟩ | exact ⟨_, _, _, _, _, rfl, (by omega), rfl⟩)
local macro_rules | `(tactic| walk_at "vr") => `(tactic| first
  | exact v_var (by rfl)
  | exact v_c
  | (apply v_i0 <;> walk_at "vr")
  | (apply v_i <;> first | walk_at "ar" | walk_at "vr")
  | (apply v_neg <;> walk_at "vr")
  | (apply v_eq <;> walk_at "vr")
  | (apply v_eqB <;> walk_at "vr")
  | (apply v_ne <;> walk_at "vr")
  | (apply v_neB <;> walk_at "vr")
  | (apply v_chain (g := fun _ _ => _) (g' := fun _ _ => _) <;> walk_at "vr")
  | (apply v_and <;> walk_at "vr")
  | (apply v_or <;> walk_at "vr")
  | (apply v_not <;> walk_at "vr")
  | (apply v_ifI <;> walk_at "vr")
  | (apply v_ifB <;> walk_at "vr")
  | (apply v_call <;> first | walk_at "fa" | walk_at "vr")
  | (apply v_abs <;> walk_at "vr")
  | (apply v_min <;> walk_at "vr")
  | exact va_nil
  | (apply va_cons <;> walk_at "vr")
  | (apply a_test <;> walk_at "vr")
  | (apply a_B <;> walk_at "vr")
  | (apply a_and <;> walk_at "vr")
  | (apply a_or <;> walk_at "vr")
  | (apply a_not <;> walk_at "vr"))
local macro_rules | `(tactic| walk_at "rs") => `(tactic| first
  | (apply r_ret; walk_at "vr")
  | (apply r_set; walk_at "vr"; walk_at "rs")
  | (apply r_ifI; walk_at "vr"; intro _; walk_at "rs"; intro _; walk_at "rs")
  | (apply r_ifB; walk_at "vr"; intro _; walk_at "rs"; intro _; walk_at "rs"))

section
variable {P : Program} {w : World} {K : PySem.W.Frag} {mg : Str → Option Value} {base : Heap}
theorem cutV_mid {α : Type} {xs : List α} : True := trivial
theorem cutV_two {xs : List V} {i j : Nat} (h1 : i ≤ j) (h2 : j ≤ xs.length) : cutV xs (some (i : Int)) (some (j : Int)) = (xs.drop i).take (j - i) := by
  unfold cutV
  rw [HT.sIx_nat, HT.sIx_nat, Nat.min_eq_left h2, Nat.min_eq_left (by omega)]
theorem pre_take {p : UInt8 → Bool} (l : List UInt8) : l.take (l.takeWhile p).length = l.takeWhile p := by
  have := List.prefix_iff_eq_take.mp (List.takeWhile_prefix p (l := l))
  exact this.symm
theorem dig_len {d : List UInt8} (hd : ∀ c ∈ d, isDigit c = true) (h0 : d.head? ≠ some 48) (hn : d ≠ []) : valueOf d < 1000 ↔ d.length ≤ 3 := by
  have up := val_lt d 0 hd
  refine ⟨fun h => ?_, fun h => ?_⟩
  · cases d with
    | nil => exact absurd rfl hn
    | cons x b =>
      have hx := hd x (List.mem_cons_self ..)
      unfold isDigit at hx
      simp only [Bool.and_eq_true, decide_eq_true_eq] at hx
      have h48 : 48 ≤ x.toNat := UInt8.le_iff_toNat_le.mp hx.1
      have hne : x.toNat ≠ 48 := fun z => h0 (by
        rw [List.head?_cons]
        exact congrArg some (UInt8.toNat_inj.mp z))
      have lo : ∀ (b : List UInt8) (n : Nat), 10 ^ b.length * n ≤ b.foldl (fun (n : Nat) (c : UInt8) => 10 * n + (c.toNat - 48)) n := fun b => by
        induction b with
        | nil => intro n; simp
        | cons y b ih =>
          intro n
          rw [List.foldl_cons, List.length_cons, Nat.pow_succ, Nat.mul_assoc]
          exact Nat.le_trans (Nat.mul_le_mul_left _ (by omega)) (ih _)
      have l1 := lo b (10 * 0 + (x.toNat - 48))
      have l2 : valueOf (x :: b) = b.foldl (fun (n : Nat) (c : UInt8) => 10 * n + (c.toNat - 48)) (10 * 0 + (x.toNat - 48)) := rfl
      rw [l2] at h
      rw [List.length_cons]
      refine Classical.byContradiction fun z => ?_
      have l3 : 10 ^ 3 ≤ 10 ^ b.length := Nat.pow_le_pow_right (by decide) (by omega)
      have l4 : 10 ^ b.length * 1 ≤ 10 ^ b.length * (10 * 0 + (x.toNat - 48)) := Nat.mul_le_mul_left _ (by omega)
      omega
  · have hp : 10 ^ d.length ≤ 10 ^ 3 := Nat.pow_le_pow_right (by decide) h
    unfold valueOf
    omega
theorem Rdr.cutV {K : PySem.W.Frag} {H : Hp} {R : Rs} {q : Nat} (S : Rdr K H R q) {i n : Nat} (h2 : i + n ≤ R.b.length) : cutV (R.bs.map bv) (some ((R.o + i : Nat) : Int)) (some ((R.o + i + n : Nat) : Int)) = ((R.b.drop i).take n).map bv := by
  have hf := S.fit
  rw [cutV_two (by omega) (by rw [List.length_map]; omega), ← List.map_drop, ← List.map_take]
  congr 1
  have z := S.rest i
  rw [← z, List.drop_take, List.take_take]
  congr 1
  omega
theorem all_take {p : UInt8 → Bool} {l : List UInt8} : ∀ c ∈ l.takeWhile p, p c = true := fun _ h => takeWhile_all h
theorem bv_nat {c : UInt8} {n : Nat} : bv c = V.int (n : Int) ↔ c.toNat = n := by
  unfold bv
  constructor
  · intro h
    injection h with h
    omega
  · intro h
    rw [h]
theorem bv_48 {c : UInt8} : bv c = V.int 48 ↔ c = 48 := by
  have z : bv c = V.int ((48 : Nat) : Int) ↔ _ := bv_nat
  exact z.trans ⟨fun h => UInt8.toNat_inj.mp h, fun h => by rw [h]; rfl⟩
/-- the promise of number_token, at a digit -/
def spNumTok (K : PySem.W.Frag) : Sp := fun vs H Q E => ∃ (R : Rs) (q m : Nat) (r : List UInt8) (c : UInt8), vs = [.ref R.s, .int ((R.o + m : Nat) : Int)] ∧ Rdr K H R q ∧ R.b.drop m = c :: r ∧ isDigit c = true ∧
  (¬ (c ≠ 48 ∧ valueOf ((c :: r).takeWhile isDigit) < 1000) → Fl K R H E (2, m)) ∧
  (c ≠ 48 ∧ valueOf ((c :: r).takeWhile isDigit) < 1000 → ∀ x dx H', Same H H' → H x = none → H' x = some (.ins (He.ga K "Token") dx (tokF 1 (.int ((valueOf ((c :: r).takeWhile isDigit) : Nat) : Int)) (R.o + m) (R.o + m + ((c :: r).takeWhile isDigit).length))) → Q (.ref x) H')
theorem ok_number_token (T : Txt w K mg) (u_behind_digits : Cal P w K mg base CX0 2 "behind_digits" p_behind_digits (spBehind isDigit K)) (q_Fault : Exq P w K mg base 1 "Fault" p_Fault_init (spErr2 K "Fault")) (u_number_of : Cal P w K mg base CX0 1 "number_of" p_number_of (spNum K)) (m_Token : Mak P w K mg base 1 "Token" p_Token_init (spI_Token K)) : Cal P w K mg base (L2.CX P w) 3 "number_token" p_number_token (spNumTok K) := by
  refine T.d_number_token.cal sc_number_token (fun vs H Q E h => by obtain ⟨_, _, _, _, _, rfl, _⟩ := h; rfl) ?_
  intro cdv A outer s0 H vs Q E hr h
  have nd := sc_number_token.nd
  have tk := tkX (P := P) (w := w) (K := K) (mg := mg) (base := base) (N := n_number_token) (q := "number_token") (sc := defScope s_number_token) (f := He.ga K "number_token") (cdv := cdv) (A := A) (outer := outer) (s := s0) (H := H) (E := E)
  have pX := paX (P := P) (w := w) (K := K) (mg := mg) (base := base) (N := n_number_token) (q := "number_token") (sc := defScope s_number_token) (f := He.ga K "number_token") (cdv := cdv) (A := A) (outer := outer) (s := s0) (H := H) (E := E)
  have po := poX (CX := L2.CX P w) (P := P) (w := w) (K := K) (mg := mg) (base := base) (N := n_number_token) (q := "number_token") (sc := defScope s_number_token) (f := He.ga K "number_token") (cdv := cdv) (A := A) (outer := outer) (s := s0) (H := H) (E := E)
  have h_behind_digits : Room (2) _ := hr.mono (by omega)
  have h_Fault : Room (2) _ := hr.mono (by omega)
  have h_number_of : Room (1) _ := hr.mono (by omega)
  have h_Token : Room (2) _ := hr.mono (by omega)
  refine ⟨_, (pss_cons (ps_set (i := 2) nd rfl (Or.inl rfl) (pe_cal u_behind_digits (h_behind_digits) (p0X (E := E0)) (pa_cons (pe_fld (pv 0) rfl) (pa_cons (pv 1) (pa_cons (pe_fld (pv 0) rfl) pa_nil)))))
      (pss_cons (ps_set (i := 3) nd rfl (Or.inl rfl) (pe_slice sl_list (pe_fld (pv 0) rfl) (po_some (pv 1)) (po_some (pv 2))))
      (pss_cons (ps_if (PW.pt (pw_or (pt_cmpR op_eq (pe_ix ix_list (pv 3) pe_int (fun _ _ => rfl)) pe_int (nomark _)) (pw_or1 (pt_cmpR op_gt (pe_callB call_len_seq (by rfl) T.f_len PySem.boot_len (pa_cons (pv 3) pa_nil)) pe_int (nomark _))))) (pss_one (ps_raise rfl tk (pmk_exq q_Fault (h_Fault) (by exact (pa_cons pe_int (pa_cons (pv 1) pa_nil)))))) pss_nil)
      (pss_one (ps_ret (pe_mak m_Token (h_Token) (pa_cons (pe_gi T.i_NUMBER) (pa_cons (pe_cal u_number_of (h_number_of) (p0X (E := E0)) (pa_cons (pv 3) pa_nil)) (pa_cons (pv 1) (pa_cons (pv 2) pa_nil)))))))))), ?_⟩
  try dsimp only [cxOf]
  clear h_Token h_number_of h_Fault h_behind_digits po pX tk nd
  obtain ⟨R, q, m, r, c, rfl, S, hm, hc, kE, kQ⟩ := h
  have hml : m < R.b.length := by
    refine Classical.byContradiction fun z => ?_
    rw [List.drop_eq_nil_of_le (by omega)] at hm
    cases hm
  have hlen : ((c :: r).takeWhile isDigit).length ≤ R.b.length - m := by
    have := tw_len isDigit (c :: r)
    rw [← hm, List.length_drop] at this
    rw [← hm]
    exact this
  walk_at "rd"
  refine ⟨R.c, R.bs, R.o + m, R.o + R.b.length, rfl, S.sq, by omega, S.fit, fun H1 s1 => ?_⟩
  rw [S.rest m, hm]
  have S1 := S.same s1
  refine ⟨_, rfl, R.s, _, R.dx, _, _, rfl, S1.ob, T.c_Reader, T.n_Reader_some, rfl, ?_⟩
  refine ⟨_, rfl, _, rfl, _, rfl, _, rfl, R.c, _, rfl, S1.sq, fun p hp => ?_⟩
  rw [S1.cutV (by omega), hm, pre_take]
  generalize hH2 : upd H1 p _ = H2
  have s2 : Same H H2 := by rw [← hH2]; exact Hc.Same.new s1 hp
  have hd0 : (c :: r).takeWhile isDigit = c :: r.takeWhile isDigit := List.takeWhile_cons_of_pos hc
  have hall : ∀ x ∈ (c :: r).takeWhile isDigit, isDigit x = true := all_take
  have hp2 : H2 p = some (.lst (((c :: r).takeWhile isDigit).map bv)) := by rw [← hH2, upd_same]
  generalize (c :: r).takeWhile isDigit = d at *
  have h0 : (d.map bv)[0]? = some (bv c) := by rw [hd0]; rfl
  have key : ¬ (c = 48) → (valueOf d < 1000 ↔ d.length ≤ 3) := fun z => dig_len hall (by rw [hd0]; simpa using z) (by rw [hd0]; simp)
  have fail : ¬ (c ≠ 48 ∧ valueOf d < 1000) → (tMkO (He.ga K (Str.ofString "Fault")) (spErr2 K (Str.ofString "Fault")) [] (tCons (tC (V.int 2)) (tCons (tVar 1) tNil)) [some (.ref R.s), some (.int ((R.o + m : Nat) : Int)), some (.int ((R.o + m + d.length : Nat) : Int)), some (.ref p)] H2 fun cls d H' => E cls d H') := fun z =>
    ⟨_, rfl, raise2 fun a H' sa _ ha => (kE z).go (fun b o y => sa _ _ (s2 _ _ y)) ha⟩
  walk_at "rd"
  refine iteB (fun c1 => ?_) fun c1 => ?_
  · exact fail fun z => z.1 (bv_48.mp (of_decide_eq_true c1))
  · have c1' : c ≠ 48 := fun z => of_decide_eq_false c1 (bv_48.mpr z)
    walk_at "rd"
    rw [List.length_map]
    refine iteB (fun c2 => ?_) fun c2 => ?_
    · refine fail fun z => ?_
      have := (key c1').mp z.2
      have := of_decide_eq_true c2
      omega
    · have c2' : d.length ≤ 3 := by
        have := of_decide_eq_false c2
        omega
      refine ⟨_, rfl, p, d, rfl, SqL.of hp2, hall, c2', fun H3 s3 => ?_⟩
      walk_at "rd"
      refine mk_Token fun x dx H4 nx s4 hx => ?_
      refine kQ ⟨c1', (key c1').mpr c2'⟩ x dx H4 (fun b o y => s4 _ _ (s3 _ _ (s2 _ _ y))) ?_ ?_
      · exact s2.free (s3.free nx)
      · rw [hx]
        rfl
/-- the token at q, by its own words -/
theorem tok_facts {b : List UInt8} {q : Nat} (hq : q ≤ b.length) {t : Token × Nat} (e : oneToken (q + blanks b q) (b.drop (q + blanks b q)) = t) :
    kindOf (Stt b q) = t.1.kind ∧ wordOf (Stt b q) = t.1.bytes ∧ numOf (Stt b q) = t.1.num ∧ place (Stt b q) = q + blanks b q ∧ nxt b q = q + blanks b q + t.2 := by
  have e' : tokP b q = t := e
  refine ⟨?_, ?_, ?_, stt_place hq, ?_⟩
  · rw [stt_kind hq, e']
  · rw [stt_word hq, e']
  · rw [stt_num hq, e']
  · unfold nxt
    rw [e']
theorem wanted_of {s : ShBlazon.St} {k p : Nat} (hk : kindOf s = k) (hp : place s = p) : wanted s = (if k = 4 then 1 else if k = 5 then 2 else 3, p) := by
  unfold wanted
  rw [hk, hp]
theorem ok_ahead (T : Txt w K mg) (u_behind_blanks : Cal P w K mg base CX0 2 "behind_blanks" p_behind_blanks (spBehind isBlank K)) (m_Token : Mak P w K mg base 1 "Token" p_Token_init (spI_Token K)) (u_is_letter : Cal P w K mg base CX0 1 "is_letter" p_is_letter spLet) (u_behind_letters : Cal P w K mg base CX0 2 "behind_letters" p_behind_letters (spBehind isLetter K)) (u_text_of : Cal P w K mg base CX0 1 "text_of" p_text_of (spText K)) (u_is_digit : Cal P w K mg base CX0 1 "is_digit" p_is_digit spDig) (u_number_token : Cal P w K mg base (L2.CX P w) 3 "number_token" p_number_token (spNumTok K)) (q_Fault : Exq P w K mg base 1 "Fault" p_Fault_init (spErr2 K "Fault")) : Cal P w K mg base (L2.CX P w) 4 "ahead" p_ahead (spAhead K) := by
  refine T.d_ahead.cal sc_ahead (fun vs H Q E h => by obtain ⟨_, _, rfl, _⟩ := h; rfl) ?_
  intro cdv A outer s0 H vs Q E hr h
  have nd := sc_ahead.nd
  have tk := tkX (P := P) (w := w) (K := K) (mg := mg) (base := base) (N := n_ahead) (q := "ahead") (sc := defScope s_ahead) (f := He.ga K "ahead") (cdv := cdv) (A := A) (outer := outer) (s := s0) (H := H) (E := E)
  have pX := paX (P := P) (w := w) (K := K) (mg := mg) (base := base) (N := n_ahead) (q := "ahead") (sc := defScope s_ahead) (f := He.ga K "ahead") (cdv := cdv) (A := A) (outer := outer) (s := s0) (H := H) (E := E)
  have po := poX (CX := L2.CX P w) (P := P) (w := w) (K := K) (mg := mg) (base := base) (N := n_ahead) (q := "ahead") (sc := defScope s_ahead) (f := He.ga K "ahead") (cdv := cdv) (A := A) (outer := outer) (s := s0) (H := H) (E := E)
  have h_behind_blanks : Room (2) _ := hr.mono (by omega)
  have h_Token : Room (2) _ := hr.mono (by omega)
  have h_is_letter : Room (1) _ := hr.mono (by omega)
  have h_behind_letters : Room (2) _ := hr.mono (by omega)
  have h_text_of : Room (1) _ := hr.mono (by omega)
  have h_is_digit : Room (1) _ := hr.mono (by omega)
  have h_number_token : Room (3) _ := hr.mono (by omega)
  have h_Fault : Room (2) _ := hr.mono (by omega)
  refine ⟨_, (pss_cons (ps_set (i := 1) nd rfl (Or.inl rfl) (pe_cal u_behind_blanks (h_behind_blanks) (p0X (E := E0)) (pa_cons (pe_fld (pv 0) rfl) (pa_cons (pe_fld (pv 0) rfl) (pa_cons (pe_fld (pv 0) rfl) pa_nil)))))
      (pss_cons (ps_if (pt_cmpR op_eq (pv 1) (pe_fld (pv 0) rfl) (nomark _)) (pss_one (ps_ret (pe_mak m_Token (h_Token) (pa_cons (pe_gi T.i_END) (pa_cons pe_str (pa_cons (pv 1) (pa_cons (pv 1) pa_nil))))))) pss_nil)
      (pss_cons (ps_set (i := 2) nd rfl (Or.inl rfl) (pe_ix ix_list (pe_fld (pv 0) rfl) (pv 1) (fun _ _ => rfl)))
      (pss_cons (ps_if (pt_val (pe_cal u_is_letter (h_is_letter) (p0X (E := E0)) (pa_cons (pv 2) pa_nil))) (pss_cons (ps_set (i := 3) nd rfl (Or.inl rfl) (pe_cal u_behind_letters (h_behind_letters) (p0X (E := E0)) (pa_cons (pe_fld (pv 0) rfl) (pa_cons (pv 1) (pa_cons (pe_fld (pv 0) rfl) pa_nil)))))
      (pss_one (ps_ret (pe_mak m_Token (h_Token) (pa_cons (pe_gi T.i_WORD) (pa_cons (pe_cal u_text_of (h_text_of) (p0X (E := E0)) (pa_cons (pe_slice sl_list (pe_fld (pv 0) rfl) (po_some (pv 1)) (po_some (pv 3))) pa_nil)) (pa_cons (pv 1) (pa_cons (pv 3) pa_nil)))))))) pss_nil)
      (pss_cons (ps_if (pt_val (pe_cal u_is_digit (h_is_digit) (p0X (E := E0)) (pa_cons (pv 2) pa_nil))) (pss_one (ps_ret (pe_cal u_number_token (h_number_token) pX (pa_cons (pv 0) (pa_cons (pv 1) pa_nil))))) pss_nil)
      (pss_cons (ps_if (pt_cmpR op_ne (pv 2) pe_int (nomark _)) (pss_one (ps_raise rfl tk (pmk_exq q_Fault (h_Fault) (by exact (pa_cons pe_int (pa_cons (pv 1) pa_nil)))))) pss_nil)
      (pss_one (ps_ret (pe_mak m_Token (h_Token) (pa_cons (pe_gi T.i_COMMA) (pa_cons pe_str (pa_cons (pv 1) (pa_cons (pe_op op_add (pv 1) pe_int) pa_nil))))))))))))), ?_⟩
  try dsimp only [cxOf]
  clear h_Fault h_number_token h_is_digit h_text_of h_behind_letters h_is_letter h_Token h_behind_blanks po pX tk nd
  obtain ⟨R, q, rfl, S, kE, kQ⟩ := h
  have hle := S.le
  have hfit := S.fit
  walk_at "rd"
  refine ⟨R.c, R.bs, R.o + q, R.o + R.b.length, rfl, S.sq, by omega, S.fit, fun H1 s1 => ?_⟩
  rw [S.rest q, show R.o + q + ((R.b.drop q).takeWhile isBlank).length = R.o + (q + blanks R.b q) from Nat.add_assoc ..]
  have hm := blanks_le hle
  have tf := fun {t : Token × Nat} => tok_facts (t := t) hle
  generalize q + blanks R.b q = m at *
  have S1 := S.same s1
  walk_at "rd"
  refine iteB (fun c1 => ?_) fun c1 => ?_
  · have c1' : m = R.b.length := by
      have z := of_decide_eq_true c1
      injection z with z
      omega
    obtain ⟨e1, e2, e3, e4, e5⟩ := tf (t := (⟨m, 3, [], 0⟩, 0)) (by rw [c1', List.drop_length]; rfl)
    rw [e1, e2, e3, e4, e5] at kQ
    walk_at "rd"
    refine mk_Token fun x dx H2 nx s2 hx => kQ (Nat.le_refl 3) x dx H2 (fun b o y => s2 _ _ (s1 _ _ y)) (s1.free nx) ?_
    rw [hx]
    rfl
  · have c1' : m < R.b.length := by
      have z : ¬ m = R.b.length := fun y => of_decide_eq_false c1 (by rw [y])
      omega
    have hd : R.b.drop m = R.b[m] :: R.b.drop (m + 1) := List.drop_eq_getElem_cons c1'
    have hv : (R.bs.map bv)[R.o + m]? = some (bv R.b[m]) := by rw [List.getElem?_map, S.byte c1']; rfl
    have hltb := (R.b[m]).toNat_lt
    generalize R.b[m] = c at *
    generalize R.b.drop (m + 1) = r at *
    walk_at "rd"
    refine fun H2 s2 => ?_
    rw [show letN ((c.toNat : Nat) : Int) = isLetter c from let_byte _]
    have S2 := S1.same s2
    have s02 : Same H H2 := fun b o y => s2 _ _ (s1 _ _ y)
    refine ⟨_, rfl, ?_⟩
    refine iteB (fun c2 => ?_) fun c2 => ?_
    · have hlen : ((c :: r).takeWhile isLetter).length ≤ R.b.length - m := by
        have := tw_len isLetter (c :: r)
        rw [← hd, List.length_drop] at this
        rw [← hd]
        exact this
      obtain ⟨e1, e2, e3, e4, e5⟩ := tf (t := (⟨m, 0, (c :: r).takeWhile isLetter, 0⟩, ((c :: r).takeWhile isLetter).length)) (by rw [hd]; unfold oneToken; dsimp only; rw [if_pos c2])
      rw [e1, e2, e3, e4, e5] at kQ
      walk_at "rd"
      refine ⟨R.c, R.bs, R.o + m, R.o + R.b.length, rfl, S2.sq, by omega, S.fit, fun H3 s3 => ?_⟩
      rw [S.rest m, hd]
      have S3 := S2.same s3
      walk_at "rd"
      refine ⟨R.c, _, rfl, S3.sq, fun p hp => ?_⟩
      rw [S3.cutV (by omega), hd, pre_take]
      generalize hH4 : upd H3 p _ = H4
      have s4 : Same H3 H4 := by rw [← hH4]; exact Hc.Same.new (Same.refl H3) hp
      have hp4 : H4 p = some (.lst (((c :: r).takeWhile isLetter).map bv)) := by rw [← hH4, upd_same]
      refine ⟨p, _, rfl, SqL.of hp4, all_take, ?_, fun H5 s5 => ?_⟩
      · have := S.big
        omega
      walk_at "rd"
      refine mk_Token fun x dx H6 nx s6 hx => kQ (Nat.zero_le 3) x dx H6 (fun b o y => s6 _ _ (s5 _ _ (s4 _ _ (s3 _ _ (s02 _ _ y))))) (s02.free (s3.free (s4.free (s5.free nx)))) ?_
      rw [hx, ← Nat.add_assoc]
      rfl
    · walk_at "rd"
      refine fun H3 s3 => ?_
      rw [show digN ((c.toNat : Nat) : Int) = isDigit c from dig_byte _]
      have S3 := S2.same s3
      have s03 : Same H H3 := fun b o y => s3 _ _ (s02 _ _ y)
      refine ⟨_, rfl, ?_⟩
      refine iteB (fun c3 => ?_) fun c3 => ?_
      · have eo : oneToken m (R.b.drop m) = (if c ≠ 48 ∧ valueOf ((c :: r).takeWhile isDigit) < 1000 then (⟨m, 1, [], valueOf ((c :: r).takeWhile isDigit)⟩, ((c :: r).takeWhile isDigit).length) else (⟨m, 5, [], 0⟩, 0)) := by
          rw [hd]
          unfold oneToken
          dsimp only
          rw [if_neg (by rw [c2]; decide), if_pos c3]
        walk_at "rd"
        refine ⟨R, q, m, r, c, rfl, S3, hd, c3, fun z => ?_, fun z x dx H4 s4 nx hx => ?_⟩
        · rw [if_neg z] at eo
          obtain ⟨e1, e2, e3, e4, e5⟩ := tf eo
          have y := kE (by rw [e1]; exact Nat.le_of_ble_eq_true rfl)
          rw [wanted_of e1 e4] at y
          exact fun d H' b' hd' => y d H' ((Bt.same s03).trans b') hd'
        · rw [if_pos z] at eo
          obtain ⟨e1, e2, e3, e4, e5⟩ := tf eo
          rw [e1, e2, e3, e4, e5] at kQ
          refine kQ (Nat.le_of_ble_eq_true rfl) x dx H4 (fun b o y => s4 _ _ (s03 _ _ y)) (s03.free nx) ?_
          rw [hx, ← Nat.add_assoc]
          rfl
      · refine ⟨_, rfl, rfl, _, rfl, ?_⟩
        refine iteB (fun c4 => ?_) fun c4 => ?_
        · have c4' : ¬ c = 44 := fun z => by
            rw [z] at c4
            simp [bv] at c4
          obtain ⟨e1, e2, e3, e4, e5⟩ := tf (t := (⟨m, 4, [], 0⟩, 0)) (by rw [hd]; unfold oneToken; dsimp only; rw [if_neg (by rw [c2]; decide), if_neg (by rw [c3]; decide), if_neg c4'])
          have y := kE (by rw [e1]; exact Nat.le_refl 4)
          rw [wanted_of e1 e4] at y
          walk_at "rd"
          refine raise2 fun a H' sa _ ha => y.go (fun b o z => sa _ _ (s03 _ _ z)) ?_
          rw [ha]
          rfl
        · have c4' : c = 44 := by
            have z : bv c = V.int ((44 : Nat) : Int) := by simpa using c4
            exact UInt8.toNat_inj.mp (bv_nat.mp z)
          obtain ⟨e1, e2, e3, e4, e5⟩ := tf (t := (⟨m, 2, [], 0⟩, 1)) (by rw [hd]; unfold oneToken; dsimp only; rw [if_neg (by rw [c2]; decide), if_neg (by rw [c3]; decide), if_pos c4'])
          rw [e1, e2, e3, e4, e5] at kQ
          walk_at "rd"
          refine mk_Token fun x dx H4 nx s4 hx => kQ (Nat.le_of_ble_eq_true rfl) x dx H4 (fun b o y => s4 _ _ (s03 _ _ y)) (s03.free nx) ?_
          rw [hx]
          rfl
end
end Hc

namespace Hc
open PySem PySem.Spec PyProof.Rows L2
open Sh ShMarsh ShBlazon
set_option hygiene false
local macro_rules | `(tactic| walk_at "hp") => `(tactic| first | assumption | exact Src.ob (by assumption) | exact Rdr.ob (by assumption) | exact upd_same)
local macro_rules | `(tactic| walk_at "sq") => `(tactic| first | assumption | exact Src.sq (by assumption) | exact Rdr.sq (by assumption) | exact SqL.of (by assumption) | exact SqL.of upd_same | exact SqT.of (by assumption) | exact SqT.of upd_same)
local macro_rules | `(tactic| walk_at "cl") => `(tactic| with_reducible first | exact T.c_Bytes | exact T.c_Coat | exact T.c_Arms | exact T.c_Layer | exact T.c_Token | exact T.c_Reader | exact T.c_Words)
local macro_rules | `(tactic| walk_at "na") => `(tactic| with_reducible first | exact T.n_Bytes_some | exact T.n_Bytes_at | exact T.n_Coat_kind | exact T.n_Coat_arms | exact T.n_Coat_canton | exact T.n_Coat_marks | exact T.n_Coat_coats | exact T.n_Arms_field | exact T.n_Arms_layers | exact T.n_Layer_kind | exact T.n_Layer_numbers | exact T.n_Layer_fill | exact T.n_Token_kind | exact T.n_Token_value | exact T.n_Token_place | exact T.n_Token_behind | exact T.n_Reader_some | exact T.n_Reader_at | exact T.n_Reader_end | exact T.n_Words_some | exact T.n_Words_at)
local macro_rules | `(tactic| walk_at "ai") => `(tactic| first | assumption | exact atI_nat (by assumption) | rfl)
local macro_rules | `(tactic| walk_at "rd1") => `(tactic| first
  | refine ⟨_, rfl, ?_⟩
  | refine ⟨rfl, ?_⟩
  | refine ⟨_, _, rfl, rfl, ?_⟩
  | refine ⟨_, _, _, _, _, rfl, (by walk_at "hp"), (by walk_at "cl"), (by walk_at "na"), (by rfl), ?_⟩
  | refine ⟨_, _, _, _, rfl, (by walk_at "hp"), (by walk_at "cl"), (by walk_at "na"), Nat.le_of_ble_eq_true rfl, ?_⟩
  | refine ⟨_, _, _, _, rfl, rfl, (by walk_at "sq"), (by walk_at "ai"), ?_⟩
  | refine ⟨_, _, rfl, (by first | exact Or.inl (by walk_at "sq") | exact Or.inr (by walk_at "sq")), ?_⟩
  | refine ⟨(by walk_at "ar"), ?_⟩)
local macro_rules | `(tactic| walk_at "ar") => `(tactic| first | exact (show CDiv _ _ from ⟨by decide, by decide⟩) | exact (show (0 : Int) < _ from by decide) | exact (show CMul _ _ from .inl ⟨by omega, by omega⟩) | exact (show CMul _ _ from .inr ⟨by omega, by omega⟩))
local macro_rules | `(tactic| walk_at "rd") => `(tactic| repeat walk_at "rd1")
local macro_rules | `(tactic| walk_at "fa") => `(tactic| first | exact ⟨_, rfl, (by omega), rfl⟩ | exact ⟨_, _, rfl, (by omega), rfl⟩ | exact ⟨_, _, _, rfl, (by omega), rfl⟩ | exact ⟨_, _, _, _, rfl, (by omega), rfl⟩ | exact ⟨_, _, _, _, _, rfl, (by omega), rfl⟩)
local macro_rules | `(tactic| walk_at "vr") => `(tactic| first
  | exact v_var (by rfl)
  | exact v_c
  | (apply v_i0 <;> walk_at "vr")
  | (apply v_i <;> first | walk_at "ar" | walk_at "vr")
  | (apply v_neg <;> walk_at "vr")
  | (apply v_eq <;> walk_at "vr")
  | (apply v_eqB <;> walk_at "vr")
  | (apply v_ne <;> walk_at "vr")
  | (apply v_neB <;> walk_at "vr")
  | (apply v_chain (g := fun _ _ => _) (g' := fun _ _ => _) <;> walk_at "vr")
  | (apply v_and <;> walk_at "vr")
  | (apply v_or <;> walk_at "vr")
  | (apply v_not <;> walk_at "vr")
  | (apply v_ifI <;> walk_at "vr")
  | (apply v_ifB <;> walk_at "vr")
  | (apply v_call <;> first | walk_at "fa" | walk_at "vr")
  | (apply v_abs <;> walk_at "vr")
  | (apply v_min <;> walk_at "vr")
  | exact va_nil
  | (apply va_cons <;> walk_at "vr")
  | (apply a_test <;> walk_at "vr")
  | (apply a_B <;> walk_at "vr")
  | (apply a_and <;> walk_at "vr")
  | (apply a_or <;> walk_at "vr")
  | (apply a_not <;> walk_at "vr"))
local macro_rules | `(tactic| walk_at "rs") => `(tactic| first
  | (apply r_ret; walk_at "vr")
  | (apply r_set; walk_at "vr"; walk_at "rs")
  | (apply r_ifI; walk_at "vr"; intro _; walk_at "rs"; intro _; walk_at "rs")
  | (apply r_ifB; walk_at "vr"; intro _; walk_at "rs"; intro _; walk_at "rs"))

section
variable {P : Program} {w : World} {K : PySem.W.Frag} {mg : Str → Option Value} {base : Heap}
theorem tx_inj {a b : List UInt8} (h : tx a = tx b) : a = b := by
  have h1 : (a.map UInt8.toNat).toArray = (b.map UInt8.toNat).toArray := congrArg Str.cps h
  have h2 : a.map UInt8.toNat = b.map UInt8.toNat := by simpa using h1
  have inj : ∀ {a b : List UInt8}, a.map UInt8.toNat = b.map UInt8.toNat → a = b := by
    intro a
    induction a with
    | nil => intro b h; cases b with
      | nil => rfl
      | cons y b => cases h
    | cons x a ih => intro b h; cases b with
      | nil => cases h
      | cons y b =>
        rw [List.map_cons, List.map_cons] at h
        injection h with h1 h2
        rw [UInt8.toNat_inj.mp h1, ih h2]
  exact inj h2
theorem tv_inj {a b : List UInt8} : tv a = tv b ↔ a = b := ⟨fun h => by unfold tv at h; injection h with h; exact tx_inj h, fun h => by rw [h]⟩
theorem eq_tv (a b : List UInt8) : eqV (tv a) (tv b) = decide (a = b) := by
  show (tx a == tx b) = _
  by_cases h : a = b
  · rw [h]
    simp
  · rw [decide_eq_false h]
    rw [beq_eq_false_iff_ne]
    exact fun z => h (tx_inj z)
theorem in_tv (x : List UInt8) (T : List (List UInt8)) : inV (tv x) (T.map tv) = decide (x ∈ T) := by
  unfold inV
  rw [List.any_map]
  by_cases h : x ∈ T
  · rw [decide_eq_true h, List.any_eq_true]
    exact ⟨x, h, by show eqV (tv x) (tv x) = true; rw [eq_tv]; simp⟩
  · rw [decide_eq_false h, List.any_eq_false]
    intro y hy z
    have z' : eqV (tv y) (tv x) = true := z
    rw [eq_tv] at z'
    exact h (of_decide_eq_true z' ▸ hy)
theorem flat_tv (T : List (List UInt8)) : (T.map tv).all flatV = true := by
  rw [List.all_map, List.all_eq_true]
  intro x _
  rfl
theorem tokV_0 {s : ShBlazon.St} (h : kindOf s = 0) (n : Nat) : tokV (kindOf s) (wordOf s) n = tv (wordOf s) := by
  unfold tokV
  rw [if_pos h]
theorem kind1 {k : Nat} : (V.int (((k + 1 : Nat)) : Int) = V.int 1) ↔ k = 0 := ⟨fun h => by injection h with h; omega, fun h => by rw [h]; rfl⟩
theorem ok_pass_token (T : Txt w K mg) (u_ahead : Cal P w K mg base (L2.CX P w) 4 "ahead" p_ahead (spAhead K)) : Cal P w K mg base (L2.CX P w) 5 "pass_token" p_pass_token (spPass K) := by
  refine T.d_pass_token.cal sc_pass_token (fun vs H Q E h => by obtain ⟨_, _, rfl, _⟩ := h; rfl) ?_
  intro cdv A outer s0 H vs Q E hr h
  have nd := sc_pass_token.nd
  have tk := tkX (P := P) (w := w) (K := K) (mg := mg) (base := base) (N := n_pass_token) (q := "pass_token") (sc := defScope s_pass_token) (f := He.ga K "pass_token") (cdv := cdv) (A := A) (outer := outer) (s := s0) (H := H) (E := E)
  have pX := paX (P := P) (w := w) (K := K) (mg := mg) (base := base) (N := n_pass_token) (q := "pass_token") (sc := defScope s_pass_token) (f := He.ga K "pass_token") (cdv := cdv) (A := A) (outer := outer) (s := s0) (H := H) (E := E)
  have po := poX (CX := L2.CX P w) (P := P) (w := w) (K := K) (mg := mg) (base := base) (N := n_pass_token) (q := "pass_token") (sc := defScope s_pass_token) (f := He.ga K "pass_token") (cdv := cdv) (A := A) (outer := outer) (s := s0) (H := H) (E := E)
  have h_ahead : Room (4) _ := hr.mono (by omega)
  refine ⟨_, (pss_cons (ps_set (i := 1) nd rfl (Or.inl rfl) (pe_cal u_ahead (h_ahead) pX (pa_cons (pv 0) pa_nil)))
      (pss_cons (ps_fld (pv 0) (pe_fld (pv 1) rfl) rfl)
      (pss_one (ps_ret (pv 1))))), ?_⟩
  try dsimp only [cxOf]
  clear h_ahead po pX tk nd
  obtain ⟨R, q, rfl, S, hk, kQ⟩ := h
  walk_at "rd"
  refine ⟨R, q, rfl, S, fun z => absurd z (by omega), fun _ x dx H1 s1 nx hx => ?_⟩
  have S1 := S.same s1
  have hn := stt_drop S.le hk
  have xs : x ≠ R.s := fun z => by rw [z, S.ob] at nx; cases nx
  walk_at "rd"
  refine kQ x dx (nxt R.b q) _ hn.1 hn.2.1 ((Bt.same s1).put) (S1.move Bt.refl.put upd_same hn.2.2) nx ?_
  rw [upd_ne xs]
  exact hx
theorem ok_is_next (T : Txt w K mg) (u_ahead : Cal P w K mg base (L2.CX P w) 4 "ahead" p_ahead (spAhead K)) : Cal P w K mg base (L2.CX P w) 5 "is_next" p_is_next (spNext K) := by
  refine T.d_is_next.cal sc_is_next (fun vs H Q E h => by obtain ⟨_, _, _, _, rfl, _⟩ := h; rfl) ?_
  intro cdv A outer s0 H vs Q E hr h
  have nd := sc_is_next.nd
  have tk := tkX (P := P) (w := w) (K := K) (mg := mg) (base := base) (N := n_is_next) (q := "is_next") (sc := defScope s_is_next) (f := He.ga K "is_next") (cdv := cdv) (A := A) (outer := outer) (s := s0) (H := H) (E := E)
  have pX := paX (P := P) (w := w) (K := K) (mg := mg) (base := base) (N := n_is_next) (q := "is_next") (sc := defScope s_is_next) (f := He.ga K "is_next") (cdv := cdv) (A := A) (outer := outer) (s := s0) (H := H) (E := E)
  have po := poX (CX := L2.CX P w) (P := P) (w := w) (K := K) (mg := mg) (base := base) (N := n_is_next) (q := "is_next") (sc := defScope s_is_next) (f := He.ga K "is_next") (cdv := cdv) (A := A) (outer := outer) (s := s0) (H := H) (E := E)
  have h_ahead : Room (4) _ := hr.mono (by omega)
  refine ⟨_, (pss_cons (ps_set (i := 2) nd rfl (Or.inl rfl) (pe_cal u_ahead (h_ahead) pX (pa_cons (pv 0) pa_nil)))
      (pss_one (ps_ret (pe_and (pe_cmpR op_eq (pe_fld (pv 2) rfl) (pe_gi T.i_WORD) (nomark _)) (pe_one (pe_cmpR op_in_seq (pe_fld (pv 2) rfl) (pv 1) rfl)))))), ?_⟩
  try dsimp only [cxOf]
  clear h_ahead po pX tk nd
  obtain ⟨R, q, a, T', rfl, S, hT, kE, kQ⟩ := h
  walk_at "rd"
  refine ⟨R, q, rfl, S, kE, fun hk x dx H1 s1 nx hx => ?_⟩
  have S1 := S.same s1
  have k2 := kQ hk H1 s1
  refine ⟨_, rfl, _, _, dx, _, _, rfl, hx, T.c_Token, T.n_Token_kind, rfl, rfl, _, rfl, ?_⟩
  by_cases c : kindOf (Stt R.b q) = 0
  · rw [decide_eq_true (kind1.mpr c)]
    refine ⟨_, rfl, _, _, dx, _, _, rfl, hx, T.c_Token, T.n_Token_value, rfl, ?_⟩
    refine ⟨_, rfl, a, T'.map tv, rfl, hT.elim (fun z => .inl (s1.seq z)) (fun z => .inr (sameT s1 z)), ?_, flat_tv T', ?_⟩
    · rw [tokV_0 c]
      rfl
    · rw [tokV_0 c]
      show Q (.bl (inV _ _)) _
      rw [in_tv]
      have e : decide (kindOf (Stt R.b q) = 0 ∧ wordOf (Stt R.b q) ∈ T') = decide (wordOf (Stt R.b q) ∈ T') := by
        rw [decide_eq_decide]
        exact ⟨fun z => z.2, fun z => ⟨c, z⟩⟩
      rw [e] at k2
      exact k2
  · rw [decide_eq_false (fun z => c (kind1.mp z))]
    have e : decide (kindOf (Stt R.b q) = 0 ∧ wordOf (Stt R.b q) ∈ T') = false := decide_eq_false fun z => c z.1
    rw [e] at k2
    exact k2
theorem ok_want (T : Txt w K mg) (q_Fault : Exq P w K mg base 1 "Fault" p_Fault_init (spErr2 K "Fault")) (u_ahead : Cal P w K mg base (L2.CX P w) 4 "ahead" p_ahead (spAhead K)) : Cal P w K mg base (L2.CX P w) 5 "want" p_want (spWant K) := by
  refine T.d_want.cal sc_want (fun vs H Q E h => by obtain ⟨_, _, _, rfl, _⟩ := h; rfl) ?_
  intro cdv A outer s0 H vs Q E hr h
  have nd := sc_want.nd
  have tk := tkX (P := P) (w := w) (K := K) (mg := mg) (base := base) (N := n_want) (q := "want") (sc := defScope s_want) (f := He.ga K "want") (cdv := cdv) (A := A) (outer := outer) (s := s0) (H := H) (E := E)
  have pX := paX (P := P) (w := w) (K := K) (mg := mg) (base := base) (N := n_want) (q := "want") (sc := defScope s_want) (f := He.ga K "want") (cdv := cdv) (A := A) (outer := outer) (s := s0) (H := H) (E := E)
  have po := poX (CX := L2.CX P w) (P := P) (w := w) (K := K) (mg := mg) (base := base) (N := n_want) (q := "want") (sc := defScope s_want) (f := He.ga K "want") (cdv := cdv) (A := A) (outer := outer) (s := s0) (H := H) (E := E)
  have h_Fault : Room (2) _ := hr.mono (by omega)
  have h_ahead : Room (4) _ := hr.mono (by omega)
  refine ⟨_, (pss_one (ps_if (pt_not (pt_val (pv 1))) (pss_one (ps_raise rfl tk (pmk_exq q_Fault (h_Fault) (by exact (pa_cons pe_int (pa_cons (pe_fld (pe_cal u_ahead (h_ahead) pX (pa_cons (pv 0) pa_nil)) rfl) pa_nil)))))) pss_nil)), ?_⟩
  try dsimp only [cxOf]
  clear h_ahead h_Fault po pX tk nd
  obtain ⟨R, q, g, rfl, S, kE, kQ⟩ := h
  walk_at "rd"
  cases g with
  | true => exact kQ rfl H (Same.refl H)
  | false =>
    have y := kE rfl
    refine ⟨_, rfl, R, q, rfl, S, fun _ => y, fun hk x dx H1 s1 nx hx => ?_⟩
    walk_at "rd"
    refine raise2 fun a H' sa _ ha => y.go (fun b o z => sa _ _ (s1 _ _ z)) ?_
    rw [ha, wanted_of rfl rfl, if_neg (by omega), if_neg (by omega)]
    rfl
theorem take_bad {T : List (List UInt8)} {s : ShBlazon.St} (h : ¬ (kindOf s = 0 ∧ wordOf s ∈ T)) : takeE T s = .error (wanted s) := by unfold takeE; rw [if_neg h]
theorem ok_take (T : Txt w K mg) (u_is_next : Cal P w K mg base (L2.CX P w) 5 "is_next" p_is_next (spNext K)) (u_want : Cal P w K mg base (L2.CX P w) 5 "want" p_want (spWant K)) (u_pass_token : Cal P w K mg base (L2.CX P w) 5 "pass_token" p_pass_token (spPass K)) : Cal P w K mg base (L2.CX P w) 6 "take" p_take (spTake K) := by
  refine T.d_take.cal sc_take (fun vs H Q E h => by obtain ⟨_, _, _, _, rfl, _⟩ := h; rfl) ?_
  intro cdv A outer s0 H vs Q E hr h
  have nd := sc_take.nd
  have tk := tkX (P := P) (w := w) (K := K) (mg := mg) (base := base) (N := n_take) (q := "take") (sc := defScope s_take) (f := He.ga K "take") (cdv := cdv) (A := A) (outer := outer) (s := s0) (H := H) (E := E)
  have pX := paX (P := P) (w := w) (K := K) (mg := mg) (base := base) (N := n_take) (q := "take") (sc := defScope s_take) (f := He.ga K "take") (cdv := cdv) (A := A) (outer := outer) (s := s0) (H := H) (E := E)
  have po := poX (CX := L2.CX P w) (P := P) (w := w) (K := K) (mg := mg) (base := base) (N := n_take) (q := "take") (sc := defScope s_take) (f := He.ga K "take") (cdv := cdv) (A := A) (outer := outer) (s := s0) (H := H) (E := E)
  have h_is_next : Room (5) _ := hr.mono (by omega)
  have h_want : Room (5) _ := hr.mono (by omega)
  have h_pass_token : Room (5) _ := hr.mono (by omega)
  refine ⟨_, (pss_cons (ps_expr (pe_cal u_want (h_want) pX (pa_cons (pv 0) (pa_cons (pe_cal u_is_next (h_is_next) pX (pa_cons (pv 0) (pa_cons (pv 1) pa_nil))) pa_nil))))
      (pss_one (ps_ret (pe_cal u_pass_token (h_pass_token) pX (pa_cons (pv 0) pa_nil))))), ?_⟩
  try dsimp only [cxOf]
  clear h_pass_token h_want h_is_next po pX tk nd
  obtain ⟨R, q, a, T', rfl, S, hT, kE, kQ⟩ := h
  walk_at "rd"
  refine ⟨R, q, a, T', rfl, S, hT, fun z => kE _ (take_bad fun y => by omega), fun hk H1 s1 => ?_⟩
  have S1 := S.same s1
  refine ⟨R, q, _, rfl, S1, fun z => ?_, fun z H2 s2 => ?_⟩
  · exact (kE _ (take_bad (of_decide_eq_false z))).bt (.same s1)
  · have hw := of_decide_eq_true z
    have hk2 : kindOf (Stt R.b q) ≤ 2 := by omega
    have S2 := S1.same s2
    walk_at "rd"
    refine ⟨R, q, rfl, S2, hk2, fun x dx q' H3 hd hq b3 S3 nx hx => ?_⟩
    refine kQ _ q' (by unfold takeE; rw [if_pos hw, hd]) x dx H3 ((Bt.same (fun b o y => s2 _ _ (s1 _ _ y))).trans b3) S3 (s1.free (s2.free nx)) ?_
    rw [hx, tokV_0 hw.1, hw.1]
end
end Hc

namespace Hc
open PySem PySem.Spec PyProof.Rows L2
open Sh ShMarsh ShBlazon
set_option hygiene false
local macro_rules | `(tactic| walk_at "hp") => `(tactic| first | assumption | exact Src.ob (by assumption) | exact Rdr.ob (by assumption) | exact upd_same)
local macro_rules | `(tactic| walk_at "sq") => `(tactic| first | assumption | exact Src.sq (by assumption) | exact Rdr.sq (by assumption) | exact SqL.of (by assumption) | exact SqL.of upd_same | exact SqT.of (by assumption) | exact SqT.of upd_same)
local macro_rules | `(tactic| walk_at "cl") => `(tactic| with_reducible first | exact T.c_Bytes | exact T.c_Coat | exact T.c_Arms | exact T.c_Layer | exact T.c_Token | exact T.c_Reader | exact T.c_Words)
local macro_rules | `(tactic| walk_at "na") => `(tactic| with_reducible first | exact T.n_Bytes_some | exact T.n_Bytes_at | exact T.n_Coat_kind | exact T.n_Coat_arms | exact T.n_Coat_canton | exact T.n_Coat_marks | exact T.n_Coat_coats | exact T.n_Arms_field | exact T.n_Arms_layers | exact T.n_Layer_kind | exact T.n_Layer_numbers | exact T.n_Layer_fill | exact T.n_Token_kind | exact T.n_Token_value | exact T.n_Token_place | exact T.n_Token_behind | exact T.n_Reader_some | exact T.n_Reader_at | exact T.n_Reader_end | exact T.n_Words_some | exact T.n_Words_at)
local macro_rules | `(tactic| walk_at "ai") => `(tactic| first | assumption | exact atI_nat (by assumption) | rfl)
local macro_rules | `(tactic| walk_at "rd1") => `(tactic| first
  | refine ⟨_, rfl, ?_⟩
  | refine ⟨rfl, ?_⟩
  | refine ⟨_, _, rfl, rfl, ?_⟩
  | refine ⟨_, _, _, _, _, rfl, (by walk_at "hp"), (by walk_at "cl"), (by walk_at "na"), (by rfl), ?_⟩
  | refine ⟨_, _, _, _, rfl, (by walk_at "hp"), (by walk_at "cl"), (by walk_at "na"), Nat.le_of_ble_eq_true rfl, ?_⟩
  | refine ⟨_, _, _, _, rfl, rfl, (by walk_at "sq"), (by walk_at "ai"), ?_⟩
  | refine ⟨_, _, rfl, (by first | exact Or.inl (by walk_at "sq") | exact Or.inr (by walk_at "sq")), ?_⟩
  | refine ⟨(by walk_at "ar"), ?_⟩)
local macro_rules | `(tactic| walk_at "ar") => `(tactic| first | exact (show CDiv _ _ from ⟨by decide, by decide⟩) | exact (show (0 : Int) < _ from by decide) | exact (show CMul _ _ from .inl ⟨by omega, by omega⟩) | exact (show CMul _ _ from .inr ⟨by omega, by omega⟩))
local macro_rules | `(tactic| walk_at "rd") => `(tactic| repeat walk_at "rd1")
local macro_rules | `(tactic| walk_at "fa") => `(tactic| first | exact ⟨_, rfl, (by omega), rfl⟩ | exact ⟨_, _, rfl, (by omega), rfl⟩ | exact ⟨_, _, _, rfl, (by omega), rfl⟩ | exact ⟨_, _, _, _, rfl, (by omega), rfl⟩ | exact ⟨_, _, _, _, _, rfl, (by omega), rfl⟩)
local macro_rules | `(tactic| walk_at "vr") => `(tactic| first
  | exact v_var (by rfl)
  | exact v_c
  | (apply v_i0 <;> walk_at "vr")
  | (apply v_i <;> first | walk_at "ar" | walk_at "vr")
  | (apply v_neg <;> walk_at "vr")
  | (apply v_eq <;> walk_at "vr")
  | (apply v_eqB <;> walk_at "vr")
  | (apply v_ne <;> walk_at "vr")
  | (apply v_neB <;> walk_at "vr")
  | (apply v_chain (g := fun _ _ => _) (g' := fun _ _ => _) <;> walk_at "vr")
  | (apply v_and <;> walk_at "vr")
  | (apply v_or <;> walk_at "vr")
  | (apply v_not <;> walk_at "vr")
  | (apply v_ifI <;> walk_at "vr")
  | (apply v_ifB <;> walk_at "vr")
  | (apply v_call <;> first | walk_at "fa" | walk_at "vr")
  | (apply v_abs <;> walk_at "vr")
  | (apply v_min <;> walk_at "vr")
  | exact va_nil
  | (apply va_cons <;> walk_at "vr")
  | (apply a_test <;> walk_at "vr")
  | (apply a_B <;> walk_at "vr")
  | (apply a_and <;> walk_at "vr")
  | (apply a_or <;> walk_at "vr")
  | (apply a_not <;> walk_at "vr"))
local macro_rules | `(tactic| walk_at "rs") => `(tactic| first
  | (apply r_ret; walk_at "vr")
  | (apply r_set; walk_at "vr"; walk_at "rs")
  | (apply r_ifI; walk_at "vr"; intro _; walk_at "rs"; intro _; walk_at "rs")
  | (apply r_ifB; walk_at "vr"; intro _; walk_at "rs"; intro _; walk_at "rs"))

section
variable {P : Program} {w : World} {K : PySem.W.Frag} {mg : Str → Option Value} {base : Heap}
def WAYS7 : List (List UInt8) := [ascii "pale", ascii "fess", ascii "bend", ascii "bend sinister", ascii "chevron", ascii "saltire"]
def VARS7 : List (List UInt8) := [ascii "barry", ascii "paly", ascii "bendy", ascii "bendy sinister", ascii "chevronny", ascii "chequy", ascii "lozengy"]
def ORDS13 : List (List UInt8) := [ascii "chief", ascii "base", ascii "pale", ascii "fess", ascii "bend", ascii "bend sinister", ascii "chevron", ascii "cross", ascii "saltire", ascii "pile", ascii "bordure", ascii "canton", ascii "quarter"]
def MANS7 : List (List UInt8) := [ascii "rows", ascii "fess", ascii "pale", ascii "bend", ascii "bend sinister", ascii "chief", ascii "base"]
def CNTS10 : List (List UInt8) := ascii "one" :: COUNTS
def LINES6 : List (List UInt8) := ascii "straight" :: LINEWORDS.drop 1
def SIZES5 : List (List UInt8) := [ascii "none", ascii "small", ascii "lesser", ascii "none", ascii "great"]
def SIZES3 : List (List UInt8) := [ascii "small", ascii "lesser", ascii "great"]
theorem t_tinct : w_TINCTURES = TINCTWORDS.map tv := by decide +kernel
theorem t_lines : w_LINES = LINES6.map tv := by decide +kernel
theorem t_ways : w_WAYS = WAYS7.map tv := by decide +kernel
theorem t_vars : w_VARIETIES = VARS7.map tv := by decide +kernel
theorem t_ords : w_ORDINARIES = ORDS13.map tv := by decide +kernel
theorem t_charges : w_CHARGES = CHARGEWORDS.map tv := by decide +kernel
theorem t_counts : w_COUNTS = CNTS10.map tv := by decide +kernel
theorem t_sizes : w_SIZES = SIZES5.map tv := by decide +kernel
theorem t_manners : w_MANNERS = MANS7.map tv := by decide +kernel
theorem tab_tinct : Tab TINCTWORDS TINCTWORDS TINCTWORDS := by decide +kernel
theorem tab_line : Tab (LINES6.drop 1) LINES6 LINEWORDS := by decide +kernel
theorem tab_way : Tab WAYS7 WAYS7 WAYWORDS := by decide +kernel
theorem tab_var : Tab VARS7 VARS7 VARYWORDS := by decide +kernel
theorem tab_man : Tab (MANS7.drop 1) MANS7 MANNERWORDS := by decide +kernel
theorem tab_ord : Tab ORDS13 ORDS13 ORDWORDS := by decide +kernel
theorem tab_size : Tab SIZES3 SIZES5 SIZES := by decide +kernel
theorem tab_charge : Tab CHARGEWORDS CHARGEWORDS CHARGEWORDS := by decide +kernel
theorem tab_several : Tab SEVERAL SEVERAL SEVERAL := by decide +kernel
theorem sin_way : SinTab WAYS7 2 := by decide +kernel
theorem sin_var : SinTab VARS7 2 := by decide +kernel
theorem sin_man : SinTab MANS7 3 := by decide +kernel
theorem sin_ord : SinTab ORDS13 4 := by decide +kernel
/-- a text's place in a tuple of texts -/
theorem tup_ix {H : Hp} {p : Addr} {L : List (List UInt8)} {vs : List V} {k : Nat} {u : List UInt8} {Q : VK} (hT : SqT K H p vs) (e : vs = L.map tv) (h1 : L[k]? = some u) (h2 : ∀ m, m < k → L[m]? ≠ some u) (q : Q (.int (k : Nat)) H) :
    ∃ p', ∃ ys : List Str, ∃ z j, V.ref p = .ref p' ∧ [tv u] = [.str z] ∧ SqT K H p' (ys.map V.str) ∧ ys[j]? = some z ∧ (∀ m, m < j → ys[m]? ≠ some z) ∧ Q (.int (j : Nat)) H := by
  refine ⟨p, L.map tx, tx u, k, rfl, rfl, ?_, ?_, fun m hm z => ?_, q⟩
  · rw [txs, ← e]
    exact hT
  · rw [List.getElem?_map, h1]
    rfl
  · rw [List.getElem?_map] at z
    cases y : L[m]? with
    | none => rw [y] at z; cases z
    | some x =>
      rw [y] at z
      injection z with z
      exact h2 m hm (by rw [y, tx_inj z])
theorem tup_a {H : Hp} {p : Addr} {L : List (List UInt8)} {vs : List V} (hT : SqT K H p vs) (e : vs = L.map tv) : SqT K H p ((L.map tx).map V.str) := by
  rw [txs, ← e]
  exact hT
theorem tup_b {L : List (List UInt8)} {k : Nat} {u : List UInt8} (h1 : L[k]? = some u) : (L.map tx)[k]? = some (tx u) := by
  rw [List.getElem?_map, h1]
  rfl
theorem tup_c {L : List (List UInt8)} {k : Nat} {u : List UInt8} (h2 : ∀ m, m < k → L[m]? ≠ some u) : ∀ m, m < k → (L.map tx)[m]? ≠ some (tx u) := fun m hm z => by
  rw [List.getElem?_map] at z
  cases y : L[m]? with
  | none => rw [y] at z; cases z
  | some x =>
    rw [y] at z
    injection z with z
    exact h2 m hm (by rw [y, tx_inj z])
theorem new_same {H H1 : Hp} {p : Addr} {o : HO} (h : upd H p o = H1) (hp : H p = none) : Same H H1 := by rw [← h]; exact Hc.Same.new (Same.refl H) hp
theorem new_at {H H1 : Hp} {p : Addr} {vs : List V} {T : List (List UInt8)} (h : upd H p (.tup vs) = H1) (e : vs = T.map tv) : H1 p = some (.tup (T.map tv)) := by rw [← h, upd_same, e]
theorem lit_bend : [V.str (Str.ofString "bend"), V.str (Str.ofString "bendy")] = [ascii "bend", ascii "bendy"].map tv := by decide +kernel
theorem lit_sin : [V.str (Str.ofString "sinister")] = [ascii "sinister"].map tv := by decide +kernel
theorem lit_sin2 : Str.ofString " sinister" = tx (ascii " sinister") := by decide +kernel
theorem ok_with_sinister (T : Txt w K mg) (u_is_next : Cal P w K mg base (L2.CX P w) 5 "is_next" p_is_next (spNext K)) (u_pass_token : Cal P w K mg base (L2.CX P w) 5 "pass_token" p_pass_token (spPass K)) : Cal P w K mg base (L2.CX P w) 6 "with_sinister" p_with_sinister (spSin K) := by
  refine T.d_with_sinister.cal sc_with_sinister (fun vs H Q E h => by obtain ⟨_, _, _, rfl, _⟩ := h; rfl) ?_
  intro cdv A outer s0 H vs Q E hr h
  have nd := sc_with_sinister.nd
  have tk := tkX (P := P) (w := w) (K := K) (mg := mg) (base := base) (N := n_with_sinister) (q := "with_sinister") (sc := defScope s_with_sinister) (f := He.ga K "with_sinister") (cdv := cdv) (A := A) (outer := outer) (s := s0) (H := H) (E := E)
  have pX := paX (P := P) (w := w) (K := K) (mg := mg) (base := base) (N := n_with_sinister) (q := "with_sinister") (sc := defScope s_with_sinister) (f := He.ga K "with_sinister") (cdv := cdv) (A := A) (outer := outer) (s := s0) (H := H) (E := E)
  have po := poX (CX := L2.CX P w) (P := P) (w := w) (K := K) (mg := mg) (base := base) (N := n_with_sinister) (q := "with_sinister") (sc := defScope s_with_sinister) (f := He.ga K "with_sinister") (cdv := cdv) (A := A) (outer := outer) (s := s0) (H := H) (E := E)
  have h_is_next : Room (5) _ := hr.mono (by omega)
  have h_pass_token : Room (5) _ := hr.mono (by omega)
  refine ⟨_, (pss_cons (ps_if (PW.pt (pw_and (pt_cmpR op_in_seq (pv 1) (pe_tup (pa_cons pe_str (pa_cons pe_str pa_nil))) rfl) (pw_and1 (pt_val (pe_cal u_is_next (h_is_next) pX (pa_cons (pv 0) (pa_cons (pe_tup (pa_cons pe_str pa_nil)) pa_nil))))))) (pss_cons (ps_expr (pe_cal u_pass_token (h_pass_token) pX (pa_cons (pv 0) pa_nil)))
      (pss_one (ps_ret (pe_op op_add_str (pv 1) pe_str)))) pss_nil)
      (pss_one (ps_ret (pv 1)))), ?_⟩
  try dsimp only [cxOf]
  clear h_pass_token h_is_next po pX tk nd
  obtain ⟨w', R, q, rfl, hl, S, RP⟩ := h
  dsimp only at hl RP
  walk_at "rd"
  refine ⟨by show 2 ≤ sizeLine; decide, ?_⟩
  refine fun p hp_ => ?_
  generalize hH_ : upd _ p _ = H1
  have s1 := new_same hH_ hp_
  have hp1 := new_at hH_ lit_bend
  clear hH_ hp_
  have S1 := S.same s1
  refine ⟨p, _, rfl, .inr (SqT.of hp1), rfl, flat_tv _, ?_⟩
  rw [if_neg (by decide), in_tv]
  refine ⟨_, rfl, ?_⟩
  have em : w' ∈ [ascii "bend", ascii "bendy"] ↔ (w' = ascii "bend" ∨ w' = ascii "bendy") := by simp
  refine iteB (fun c => ?_) fun c => ?_
  · have c' := em.mp (of_decide_eq_true c)
    walk_at "rd"
    refine ⟨by show 1 ≤ sizeLine; decide, ?_⟩
    refine fun p2 hp_ => ?_
    generalize hH_ : upd _ p2 _ = H2
    have s2 := new_same hH_ hp_
    have hp2 := new_at hH_ lit_sin
    clear hH_ hp_
    have S2 := S1.same s2
    refine ⟨R, q, p2, _, rfl, S2, .inr (SqT.of hp2), fun z => ?_, fun hk H3 s3 => ?_⟩
    · refine (RP.err _ ?_).bt (.same fun b o y => s2 _ _ (s1 _ _ y))
      unfold sinW
      rw [if_pos c', if_pos z]
    · have S3 := S2.same s3
      have s03 : Same H H3 := fun b o y => s3 _ _ (s2 _ _ (s1 _ _ y))
      walk_at "rd"
      refine iteB (fun c2 => ?_) fun c2 => ?_
      · have hw := word_iff.mpr (of_decide_eq_true c2)
        have hk2 : kindOf (Stt R.b q) ≤ 2 := by have := (of_decide_eq_true c2).1; omega
        walk_at "rd"
        refine ⟨R, q, rfl, S3, hk2, fun x dx q' H4 hd hq b4 S4 nx hx => ?_⟩
        refine ⟨_, rfl, _, _, rfl, rfl, ?_, ?_⟩
        · rw [lit_sin2, tx_len, tx_len]
          exact Nat.le_trans (Nat.add_le_add hl (show (ascii " sinister").length ≤ 20 by decide +kernel)) (by decide)
        · rw [lit_sin2, tx_add]
          refine RP.ok _ q' ?_ _ H4 ((Bt.same s03).trans b4) S4 rfl
          unfold sinW
          rw [if_pos c', if_neg (by omega), if_pos hw, hd]
      · walk_at "rd"
        refine RP.ok _ q ?_ _ H3 (.same s03) S3 rfl
        unfold sinW
        rw [if_pos c', if_neg (by omega), if_neg (by rw [word_false (of_decide_eq_false c2)]; decide)]
  · have c' := fun z => of_decide_eq_false c (em.mpr z)
    refine ⟨_, rfl, ?_⟩
    refine RP.ok _ q ?_ _ H1 (.same s1) S1 rfl
    unfold sinW
    rw [if_neg c']
abbrev spLineR (K : PySem.W.Frag) : Sp := spRg (ι := Unit) K (fun _ => []) (fun _ _ _ _ => True) (fun _ => lineE) (fun _ => IsIntR)
theorem ok_read_line (T : Txt w K mg) (u_is_next : Cal P w K mg base (L2.CX P w) 5 "is_next" p_is_next (spNext K)) (u_pass_token : Cal P w K mg base (L2.CX P w) 5 "pass_token" p_pass_token (spPass K)) : Cal P w K mg base (L2.CX P w) 6 "read_line" p_read_line (spLineR K) := by
  refine T.d_read_line.cal sc_read_line (fun vs H Q E h => by obtain ⟨_, _, _, rfl, _⟩ := h; rfl) ?_
  intro cdv A outer s0 H vs Q E hr h
  have nd := sc_read_line.nd
  have tk := tkX (P := P) (w := w) (K := K) (mg := mg) (base := base) (N := n_read_line) (q := "read_line") (sc := defScope s_read_line) (f := He.ga K "read_line") (cdv := cdv) (A := A) (outer := outer) (s := s0) (H := H) (E := E)
  have pX := paX (P := P) (w := w) (K := K) (mg := mg) (base := base) (N := n_read_line) (q := "read_line") (sc := defScope s_read_line) (f := He.ga K "read_line") (cdv := cdv) (A := A) (outer := outer) (s := s0) (H := H) (E := E)
  have po := poX (CX := L2.CX P w) (P := P) (w := w) (K := K) (mg := mg) (base := base) (N := n_read_line) (q := "read_line") (sc := defScope s_read_line) (f := He.ga K "read_line") (cdv := cdv) (A := A) (outer := outer) (s := s0) (H := H) (E := E)
  have h_is_next : Room (5) _ := hr.mono (by omega)
  have h_pass_token : Room (5) _ := hr.mono (by omega)
  refine ⟨_, (pss_cons (ps_if (pt_val (pe_cal u_is_next (h_is_next) pX (pa_cons (pv 0) (pa_cons (pe_slice sl_tupA (pe_gr T.g_LINES) (po_some pe_int) po_none) pa_nil)))) (pss_one (ps_ret (pe_bm PySem.F.plainAttrs_tuple PySem.F.slot_tuple_index PySem.F.type_tuple_index mt_tup_index (pe_gr T.g_LINES) (pa_cons (pe_fld (pe_cal u_pass_token (h_pass_token) pX (pa_cons (pv 0) pa_nil)) rfl) pa_nil)))) pss_nil)
      (pss_one (ps_ret pe_int))), ?_⟩
  try dsimp only [cxOf]
  clear h_pass_token h_is_next po pX tk nd
  obtain ⟨_, R, q, rfl, _, S, RP⟩ := h
  dsimp only at RP
  walk_at "rd"
  refine ⟨_, _, rfl, T.t_LINES _, fun z => absurd z.1 (by decide), fun _ => ?_⟩
  refine fun p hp_ => ?_
  generalize hH_ : upd _ p _ = H1
  have s1 := new_same hH_ hp_
  have hp1 := new_at hH_ (show cutV w_LINES (some 1) none = (LINES6.drop 1).map tv by decide +kernel)
  clear hH_ hp_
  have S1 := S.same s1
  have ok := ok_stt S.le
  walk_at "rd"
  refine ⟨R, q, p, _, rfl, S1, .inr (SqT.of hp1), fun z => ?_, fun hk H2 s2 => ?_⟩
  · refine (RP.err _ ?_).bt (.same s1)
    unfold lineE
    rw [if_pos z]
  · have S2 := S1.same s2
    have s02 : Same H H2 := fun b o y => s2 _ _ (s1 _ _ y)
    walk_at "rd"
    refine iteB (fun c => ?_) fun c => ?_
    · have c' := of_decide_eq_true c
      obtain ⟨k, h1, h2, h3, h4⟩ := tab_yes tab_line ok c'
      walk_at "rd"
      have hk2 : kindOf (Stt R.b q) ≤ 2 := by have := c'.1; omega
      refine ⟨T.y_LINES.ty, _, rfl, R, q, rfl, S2, hk2, fun x dx q' H4 hd hq b4 S4 nx hx => ?_⟩
      walk_at "rd"
      rw [tokV_0 c'.1]
      refine tup_ix (T.t_LINES _) t_lines h3 h4 ?_
      refine RP.ok k q' ?_ _ H4 ((Bt.same s02).trans b4) S4 rfl
      unfold lineE lineAt
      rw [if_neg (by omega), h1, hd]
    · walk_at "rd"
      refine RP.ok 0 q ?_ _ H2 (.same s02) S2 rfl
      unfold lineE lineAt
      rw [if_neg (by omega), tab_no tab_line ok (of_decide_eq_false c)]
end
end Hc

namespace Hc
open PySem PySem.Spec PyProof.Rows L2
open Sh ShMarsh ShBlazon
set_option hygiene false
local macro_rules | `(tactic| walk_at "hp") => `(tactic| first | assumption | exact Src.ob (by assumption) | exact Rdr.ob (by assumption) | exact upd_same)
local macro_rules | `(tactic| walk_at "sq") => `(tactic| first | assumption | exact Src.sq (by assumption) | exact Rdr.sq (by assumption) | exact SqL.of (by assumption) | exact SqL.of upd_same | exact SqT.of (by assumption) | exact SqT.of upd_same)
local macro_rules | `(tactic| walk_at "cl") => `(tactic| with_reducible first | exact T.c_Bytes | exact T.c_Coat | exact T.c_Arms | exact T.c_Layer | exact T.c_Token | exact T.c_Reader | exact T.c_Words)
local macro_rules | `(tactic| walk_at "na") => `(tactic| with_reducible first | exact T.n_Bytes_some | exact T.n_Bytes_at | exact T.n_Coat_kind | exact T.n_Coat_arms | exact T.n_Coat_canton | exact T.n_Coat_marks | exact T.n_Coat_coats | exact T.n_Arms_field | exact T.n_Arms_layers | exact T.n_Layer_kind | exact T.n_Layer_numbers | exact T.n_Layer_fill | exact T.n_Token_kind | exact T.n_Token_value | exact T.n_Token_place | exact T.n_Token_behind | exact T.n_Reader_some | exact T.n_Reader_at | exact T.n_Reader_end | exact T.n_Words_some | exact T.n_Words_at)
local macro_rules | `(tactic| walk_at "ai") => `(tactic| first | assumption | exact atI_nat (by assumption) | rfl)
local macro_rules | `(tactic| walk_at "rd1") => `(tactic| first
  | refine ⟨_, rfl, ?_⟩
  | refine ⟨rfl, ?_⟩
  | refine ⟨_, _, rfl, rfl, ?_⟩
  | refine ⟨_, _, _, _, _, rfl, (by walk_at "hp"), (by walk_at "cl"), (by walk_at "na"), (by rfl), ?_⟩
  | refine ⟨_, _, _, _, rfl, (by walk_at "hp"), (by walk_at "cl"), (by walk_at "na"), Nat.le_of_ble_eq_true rfl, ?_⟩
  | refine ⟨_, _, _, _, rfl, rfl, (by walk_at "sq"), (by walk_at "ai"), ?_⟩
  | refine ⟨_, _, rfl, (by first | exact Or.inl (by walk_at "sq") | exact Or.inr (by walk_at "sq")), ?_⟩
  | refine ⟨(by walk_at "ar"), ?_⟩)
local macro_rules | `(tactic| walk_at "ar") => `(tactic| first | exact (show CDiv _ _ from ⟨by decide, by decide⟩) | exact (show (0 : Int) < _ from by decide) | exact (show CMul _ _ from .inl ⟨by omega, by omega⟩) | exact (show CMul _ _ from .inr ⟨by omega, by omega⟩))
local macro_rules | `(tactic| walk_at "rd") => `(tactic| repeat walk_at "rd1")
local macro_rules | `(tactic| walk_at "fa") => `(tactic| first | exact ⟨_, rfl, (by omega), rfl⟩ | exact ⟨_, _, rfl, (by omega), rfl⟩ | exact ⟨_, _, _, rfl, (by omega), rfl⟩ | exact ⟨_, _, _, _, rfl, (by omega), rfl⟩ | exact ⟨_, _, _, _, _, rfl, (by omega), rfl⟩)
local macro_rules | `(tactic| walk_at "vr") => `(tactic| first
  | exact v_var (by rfl)
  | exact v_c
  | (apply v_i0 <;> walk_at "vr")
  | (apply v_i <;> first | walk_at "ar" | walk_at "vr")
  | (apply v_neg <;> walk_at "vr")
  | (apply v_eq <;> walk_at "vr")
  | (apply v_eqB <;> walk_at "vr")
  | (apply v_ne <;> walk_at "vr")
  | (apply v_neB <;> walk_at "vr")
  | (apply v_chain (g := fun _ _ => _) (g' := fun _ _ => _) <;> walk_at "vr")
  | (apply v_and <;> walk_at "vr")
  | (apply v_or <;> walk_at "vr")
  | (apply v_not <;> walk_at "vr")
  | (apply v_ifI <;> walk_at "vr")
  | (apply v_ifB <;> walk_at "vr")
  | (apply v_call <;> first | walk_at "fa" | walk_at "vr")
  | (apply v_abs <;> walk_at "vr")
  | (apply v_min <;> walk_at "vr")
  | exact va_nil
  | (apply va_cons <;> walk_at "vr")
  | (apply a_test <;> walk_at "vr")
  | (apply a_B <;> walk_at "vr")
  | (apply a_and <;> walk_at "vr")
  | (apply a_or <;> walk_at "vr")
  | (apply a_not <;> walk_at "vr"))
local macro_rules | `(tactic| walk_at "rs") => `(tactic| first
  | (apply r_ret; walk_at "vr")
  | (apply r_set; walk_at "vr"; walk_at "rs")
  | (apply r_ifI; walk_at "vr"; intro _; walk_at "rs"; intro _; walk_at "rs")
  | (apply r_ifB; walk_at "vr"; intro _; walk_at "rs"; intro _; walk_at "rs"))

section
variable {P : Program} {w : World} {K : PySem.W.Frag} {mg : Str → Option Value} {base : Heap}
def TwoOk (x : Nat × Nat) : Prop := x.1 ≤ 8 ∧ x.2 ≤ 8 ∧ x.1 ≠ x.2
abbrev spTwoR (K : PySem.W.Frag) : Sp := spRg (ι := Unit) K (fun _ => []) (fun _ _ _ _ => True) (fun _ => ShBlazon.twoAt) (fun _ _ D v x => IsTwo D v x ∧ TwoOk x)
theorem lit_and : [V.str (Str.ofString "and")] = [ascii "and"].map tv := by decide +kernel
theorem lit_of : [V.str (Str.ofString "of")] = [ascii "of"].map tv := by decide +kernel
theorem ok_read_tinctures (T : Txt w K mg) (u_take : Cal P w K mg base (L2.CX P w) 6 "take" p_take (spTake K)) (q_Fault : Exq P w K mg base 1 "Fault" p_Fault_init (spErr2 K "Fault")) : Cal P w K mg base (L2.CX P w) 7 "read_tinctures" p_read_tinctures (spTwoR K) := by
  refine T.d_read_tinctures.cal sc_read_tinctures (fun vs H Q E h => by obtain ⟨_, _, _, rfl, _⟩ := h; rfl) ?_
  intro cdv A outer s0 H vs Q E hr h
  have nd := sc_read_tinctures.nd
  have tk := tkX (P := P) (w := w) (K := K) (mg := mg) (base := base) (N := n_read_tinctures) (q := "read_tinctures") (sc := defScope s_read_tinctures) (f := He.ga K "read_tinctures") (cdv := cdv) (A := A) (outer := outer) (s := s0) (H := H) (E := E)
  have pX := paX (P := P) (w := w) (K := K) (mg := mg) (base := base) (N := n_read_tinctures) (q := "read_tinctures") (sc := defScope s_read_tinctures) (f := He.ga K "read_tinctures") (cdv := cdv) (A := A) (outer := outer) (s := s0) (H := H) (E := E)
  have po := poX (CX := L2.CX P w) (P := P) (w := w) (K := K) (mg := mg) (base := base) (N := n_read_tinctures) (q := "read_tinctures") (sc := defScope s_read_tinctures) (f := He.ga K "read_tinctures") (cdv := cdv) (A := A) (outer := outer) (s := s0) (H := H) (E := E)
  have h_take : Room (6) _ := hr.mono (by omega)
  have h_Fault : Room (2) _ := hr.mono (by omega)
  refine ⟨_, (pss_cons (ps_set (i := 1) nd rfl (Or.inl rfl) (pe_bm PySem.F.plainAttrs_tuple PySem.F.slot_tuple_index PySem.F.type_tuple_index mt_tup_index (pe_gr T.g_TINCTURES) (pa_cons (pe_fld (pe_cal u_take (h_take) pX (pa_cons (pv 0) (pa_cons (pe_gr T.g_TINCTURES) pa_nil))) rfl) pa_nil)))
      (pss_cons (ps_expr (pe_cal u_take (h_take) pX (pa_cons (pv 0) (pa_cons (pe_tup (pa_cons pe_str pa_nil)) pa_nil))))
      (pss_cons (ps_set (i := 2) nd rfl (Or.inl rfl) (pe_cal u_take (h_take) pX (pa_cons (pv 0) (pa_cons (pe_gr T.g_TINCTURES) pa_nil))))
      (pss_cons (ps_if (pt_cmpR op_eq (pe_bm PySem.F.plainAttrs_tuple PySem.F.slot_tuple_index PySem.F.type_tuple_index mt_tup_index (pe_gr T.g_TINCTURES) (pa_cons (pe_fld (pv 2) rfl) pa_nil)) (pv 1) (nomark _)) (pss_one (ps_raise rfl tk (pmk_exq q_Fault (h_Fault) (by exact (pa_cons pe_int (pa_cons (pe_fld (pv 2) rfl) pa_nil)))))) pss_nil)
      (pss_one (ps_ret (pe_tup (pa_cons (pv 1) (pa_cons (pe_bm PySem.F.plainAttrs_tuple PySem.F.slot_tuple_index PySem.F.type_tuple_index mt_tup_index (pe_gr T.g_TINCTURES) (pa_cons (pe_fld (pv 2) rfl) pa_nil)) pa_nil))))))))), ?_⟩
  try dsimp only [cxOf]
  clear h_Fault h_take po pX tk nd
  obtain ⟨_, R, q, rfl, _, S, RP⟩ := h
  dsimp only at RP
  walk_at "rd"
  refine ⟨T.y_TINCTURES.ty, _, rfl, R, q, _, TINCTWORDS, rfl, S, .inr (t_tinct ▸ T.t_TINCTURES _), fun e he => RP.err e (by simp only [ShBlazon.twoAt, takeE_err tab_tinct (ok_stt S.le) he]), fun x q1 he y dx H1 b1 S1 ny hy => ?_⟩
  obtain ⟨k, e1, e2, e3, e4, e5, e6, e7, e8, e9⟩ := takeE_ok tab_tinct (ok_stt S.le) he
  walk_at "rd"
  refine ⟨_, _, _, _, rfl, rfl, tup_a (T.t_TINCTURES _) t_tinct, tup_b e4, tup_c e5, ?_⟩
  refine ⟨_, rfl, by show 1 ≤ sizeLine; decide, ?_⟩
  refine fun p hp_ => ?_
  generalize hH_ : upd _ p _ = H2
  have s2 := new_same hH_ hp_
  have hp2 := new_at hH_ lit_and
  clear hH_ hp_
  have S2 := S1.same s2
  have B2 := b1.trans (.same s2)
  refine ⟨R, _, p, _, rfl, S2, .inr (SqT.of hp2), fun e he => (RP.err e (by simp only [ShBlazon.twoAt, e1, takeW_err he])).bt B2, fun x2 q2 he2 y2 dx2 H3 b3 S3 ny2 hy2 => ?_⟩
  have w1 := (takeW_ok he2).1
  have B3 := B2.trans b3
  walk_at "rd"
  refine ⟨R, _, _, TINCTWORDS, rfl, S3, .inr (t_tinct ▸ T.t_TINCTURES _), fun e he => (RP.err e (by simp only [ShBlazon.twoAt, e1, w1, takeE_err tab_tinct (ok_stt S3.le) he])).bt B3, fun x3 q3 he3 y3 dx3 H4 b4 S4 ny3 hy3 => ?_⟩
  obtain ⟨k3, f1, f2, f3, f4, f5, f6, f7, f8, f9⟩ := takeE_ok tab_tinct (ok_stt S3.le) he3
  have B4 := B3.trans b4
  refine ⟨T.y_TINCTURES.ty, ?_⟩
  walk_at "rd"
  refine ⟨_, _, _, _, rfl, rfl, tup_a (T.t_TINCTURES _) t_tinct, tup_b f4, tup_c f5, ?_⟩
  walk_at "rd"
  refine iteB (fun c => ?_) fun c => ?_
  · have c' : k = k3 := by
      have z := of_decide_eq_true c
      injection z with z
      omega
    walk_at "rd"
    refine raise2 fun a H' sa _ ha => RP.err (5, place (Stt R.b q2)) ?_ a H' (B4.trans (.same sa)) ?_
    · simp only [ShBlazon.twoAt, e1, w1, f1, if_pos c']
    · rw [ha, f6]
      rfl
  · have c' : ¬ k = k3 := fun z => by
      rw [z] at c
      simp at c
    walk_at "rd"
    refine ⟨T.y_TINCTURES.ty, ?_⟩
    walk_at "rd"
    refine ⟨_, _, _, _, rfl, rfl, tup_a (T.t_TINCTURES _) t_tinct, tup_b f4, tup_c f5, ?_⟩
    refine ⟨by show 2 ≤ sizeLine; decide, fun t ht => ?_⟩
    refine RP.ok (k, k3) _ (by simp only [ShBlazon.twoAt, e1, w1, f1, if_neg c']) _ _ (B4.new ht) (S4.same (Hc.Same.new (Same.refl _) ht)) ⟨⟨t, rfl, dn_of (B4.none S4.ob t ht) upd_same⟩, ?_, ?_, c'⟩
    · have : k < 9 := e3
      exact Nat.le_of_lt_succ this
    · have : k3 < 9 := f3
      exact Nat.le_of_lt_succ this
theorem line_le (s : ShBlazon.St) : (lineAt s).1 ≤ 5 := by
  unfold lineAt
  cases h : look LINEWORDS s with
  | none => exact Nat.zero_le 5
  | some k =>
    unfold look at h
    by_cases c : kindOf s = 0
    · rw [if_pos c] at h
      have : k < 6 := (find_get h).1
      exact Nat.le_of_lt_succ this
    · rw [if_neg c] at h
      cases h
abbrev spVaried (K : PySem.W.Frag) : Sp := spRg (ι := Nat × List UInt8) K (fun i => [tv i.2]) (fun i _ _ _ => VARS7[i.1]? = some i.2) (fun i s => variedAt (sinister 2 i.1 s).1 (sinister 2 i.1 s).2) (fun _ _ D v f => IsField D v f ∧ WfField f)
theorem vars_len {v : Nat} {w : List UInt8} (h : VARS7[v]? = some w) : v ≤ 6 ∧ w.length ≤ 100 := by
  have h1 : v < 7 := (List.getElem?_eq_some_iff.mp h).1
  have z : ∀ v : Fin 7, (VARS7.getD v.val []).length ≤ 100 := by decide +kernel
  have y := z ⟨v, h1⟩
  dsimp only at y
  rw [List.getD_eq_getElem?_getD, h] at y
  exact ⟨Nat.le_of_lt_succ h1, y⟩
theorem kind2 {k : Nat} : (V.int (((k + 1 : Nat)) : Int) = V.int 2) ↔ k = 1 := ⟨fun h => by injection h with h; omega, fun h => by rw [h]; rfl⟩
theorem ok_read_varied (T : Txt w K mg) (u_with_sinister : Cal P w K mg base (L2.CX P w) 6 "with_sinister" p_with_sinister (spSin K)) (u_take : Cal P w K mg base (L2.CX P w) 6 "take" p_take (spTake K)) (u_ahead : Cal P w K mg base (L2.CX P w) 4 "ahead" p_ahead (spAhead K)) (u_want : Cal P w K mg base (L2.CX P w) 5 "want" p_want (spWant K)) (u_pass_token : Cal P w K mg base (L2.CX P w) 5 "pass_token" p_pass_token (spPass K)) (q_Fault : Exq P w K mg base 1 "Fault" p_Fault_init (spErr2 K "Fault")) (u_read_line : Cal P w K mg base (L2.CX P w) 6 "read_line" p_read_line (spLineR K)) (u_read_tinctures : Cal P w K mg base (L2.CX P w) 7 "read_tinctures" p_read_tinctures (spTwoR K)) : Cal P w K mg base (L2.CX P w) 8 "read_varied" p_read_varied (spVaried K) := by
  refine T.d_read_varied.cal sc_read_varied (fun vs H Q E h => by obtain ⟨_, _, _, rfl, _⟩ := h; rfl) ?_
  intro cdv A outer s0 H vs Q E hr h
  have nd := sc_read_varied.nd
  have tk := tkX (P := P) (w := w) (K := K) (mg := mg) (base := base) (N := n_read_varied) (q := "read_varied") (sc := defScope s_read_varied) (f := He.ga K "read_varied") (cdv := cdv) (A := A) (outer := outer) (s := s0) (H := H) (E := E)
  have pX := paX (P := P) (w := w) (K := K) (mg := mg) (base := base) (N := n_read_varied) (q := "read_varied") (sc := defScope s_read_varied) (f := He.ga K "read_varied") (cdv := cdv) (A := A) (outer := outer) (s := s0) (H := H) (E := E)
  have po := poX (CX := L2.CX P w) (P := P) (w := w) (K := K) (mg := mg) (base := base) (N := n_read_varied) (q := "read_varied") (sc := defScope s_read_varied) (f := He.ga K "read_varied") (cdv := cdv) (A := A) (outer := outer) (s := s0) (H := H) (E := E)
  have h_with_sinister : Room (6) _ := hr.mono (by omega)
  have h_take : Room (6) _ := hr.mono (by omega)
  have h_ahead : Room (4) _ := hr.mono (by omega)
  have h_want : Room (5) _ := hr.mono (by omega)
  have h_pass_token : Room (5) _ := hr.mono (by omega)
  have h_Fault : Room (2) _ := hr.mono (by omega)
  have h_read_line : Room (6) _ := hr.mono (by omega)
  have h_read_tinctures : Room (7) _ := hr.mono (by omega)
  refine ⟨_, (pss_cons (ps_set (i := 2) nd rfl (Or.inl rfl) (pe_bm PySem.F.plainAttrs_tuple PySem.F.slot_tuple_index PySem.F.type_tuple_index mt_tup_index (pe_gr T.g_VARIETIES) (pa_cons (pe_cal u_with_sinister (h_with_sinister) pX (pa_cons (pv 0) (pa_cons (pv 1) pa_nil))) pa_nil)))
      (pss_cons (ps_expr (pe_cal u_take (h_take) pX (pa_cons (pv 0) (pa_cons (pe_tup (pa_cons pe_str pa_nil)) pa_nil))))
      (pss_cons (ps_expr (pe_cal u_want (h_want) pX (pa_cons (pv 0) (pa_cons (pe_cmpR op_eq (pe_fld (pe_cal u_ahead (h_ahead) pX (pa_cons (pv 0) pa_nil)) rfl) (pe_gi T.i_NUMBER) (nomark _)) pa_nil))))
      (pss_cons (ps_set (i := 3) nd rfl (Or.inl rfl) (pe_cal u_pass_token (h_pass_token) pX (pa_cons (pv 0) pa_nil)))
      (pss_cons (ps_if (pt_not (pt_chain op_le op_le pe_int (pe_fld (pv 3) rfl) pe_int)) (pss_one (ps_raise rfl tk (pmk_exq q_Fault (h_Fault) (by exact (pa_cons pe_int (pa_cons (pe_fld (pv 3) rfl) pa_nil)))))) pss_nil)
      (pss_cons (ps_set (i := 4) nd rfl (Or.inl rfl) (pe_ifExp (pt_cmpR op_lt (pv 2) pe_int (nomark _)) (pe_cal u_read_line (h_read_line) pX (pa_cons (pv 0) pa_nil)) pe_int))
      (pss_one (ps_ret (pe_op op_catA (pe_tup (pa_cons (pe_gi T.i_VARIED) (pa_cons (pv 2) (pa_cons (pe_fld (pv 3) rfl) (pa_cons (pv 4) pa_nil))))) (pe_cal u_read_tinctures (h_read_tinctures) pX (pa_cons (pv 0) pa_nil))))))))))), ?_⟩
  try dsimp only [cxOf]
  clear h_read_tinctures h_read_line h_Fault h_pass_token h_want h_ahead h_take h_with_sinister po pX tk nd
  obtain ⟨⟨v, w'⟩, R, q, rfl, hv, S, RP⟩ := h
  dsimp only at hv RP
  have hvl := vars_len hv
  walk_at "rd"
  refine ⟨T.y_VARIETIES.ty, _, rfl, _, rfl, w', R, q, rfl, hvl.2, S, ⟨fun e he => RP.err e ?_, fun u q1 he v1 H1 b1 S1 is => ?_⟩⟩
  · obtain ⟨h1, h2, h3⟩ := sinE_err (sin_err sin_var hv he)
    rw [h3, h2]
    exact bad_varied h1
  obtain ⟨k, f1, f2, f3⟩ := sin_ok sin_var hv he
  have f4 := sinE_ok f1
  have kE := RP.err
  have kO := RP.ok
  dsimp only at kE kO is
  rw [f4] at kE kO
  dsimp only at kE kO
  clear RP
  obtain rfl : v1 = tv u := is
  have hk7 : k ≤ 6 := by
    have : k < 7 := (List.getElem?_eq_some_iff.mp f2).1
    omega
  walk_at "rd"
  refine ⟨_, _, _, _, rfl, rfl, tup_a (T.t_VARIETIES _) t_vars, tup_b f2, tup_c f3, ?_⟩
  refine ⟨_, rfl, by show 1 ≤ sizeLine; decide, ?_⟩
  refine fun p hp_ => ?_
  generalize hH_ : upd _ p _ = H2
  have s2 := new_same hH_ hp_
  have hp2 := new_at hH_ lit_of
  clear hH_ hp_
  have S2 := S1.same s2
  have B2 := b1.trans (.same s2)
  refine ⟨R, _, p, _, rfl, S2, .inr (SqT.of hp2), fun e he => (kE e (by simp only [variedAt, piecesAt, takeW_err he])).bt B2, fun x2 q2 he2 y2 dx2 H3 b3 S3 ny2 hy2 => ?_⟩
  have w1 := (takeW_ok he2).1
  have B3 := B2.trans b3
  have fail : kindOf (Stt R.b q2) ≠ 1 → Fl K R H E (wanted (Stt R.b q2)) := fun z => kE _ (by simp only [variedAt, piecesAt, w1, if_neg z])
  walk_at "rd"
  refine ⟨R, q2, rfl, S3, fun z => (fail (by omega)).bt B3, fun hk3 x4 dx4 H4 s4 nx4 hx4 => ?_⟩
  have S4 := S3.same s4
  have B4 := B3.trans (.same s4)
  walk_at "rd"
  refine ⟨R, q2, _, rfl, S4, fun z => (fail fun y => of_decide_eq_false z (kind2.mpr y)).bt B4, fun z H5 s5 => ?_⟩
  have hk1 := kind2.mp (of_decide_eq_true z)
  have S5 := S4.same s5
  have B5 := B4.trans (.same s5)
  walk_at "rd"
  refine ⟨R, q2, rfl, S5, by omega, fun x6 dx6 q6 H6 hd6 hq6 b6 S6 nx6 hx6 => ?_⟩
  rw [hk1] at hx6
  have B6 := B5.trans b6
  have hx6' : H6 x6 = some (.ins (He.ga K "Token") dx6 [("kind", .int 2), ("value", .int ((numOf (Stt R.b q2) : Nat) : Int)), ("place", .int ((R.o + place (Stt R.b q2) : Nat) : Int)), ("behind", .int ((R.o + q6 : Nat) : Int))]) := hx6
  clear hx6 hx4 hy2
  have x6s : x6 ≠ R.s := fun z => by rw [z, S5.ob] at nx6; cases nx6
  generalize hn : numOf (Stt R.b q2) = n at *
  have bad : (n < 2 ∨ 24 < n) → (tMkO (He.ga K (Str.ofString "Fault")) (spErr2 K (Str.ofString "Fault")) [] (tCons (tC (V.int 4)) (tCons (tFld K (tVar 3) (Str.ofString "place")) tNil)) [some (.ref R.s), some (tv w'), some (.int (k : Int)), some (.ref x6), none] H6 fun cls d H' => E cls d H') := fun z => by
    walk_at "rd"
    refine raise2 fun a H' sa _ ha => kE (4, place (Stt R.b q2)) ?_ a H' (B6.trans (.same sa)) ?_
    · simp only [variedAt, piecesAt, w1, if_pos hk1, hn, if_pos z]
    · rw [ha]
      rfl
  have fin : (2 ≤ n ∧ n ≤ 24) → ∀ (l q7 : Nat) (H7 : Hp), (if 5 ≤ k then ((0 : Nat), Stt R.b q6) else lineAt (Stt R.b q6)) = (l, Stt R.b q7) → Bt R.s H6 H7 → Rdr K H7 R q7 →
      tRet (tOp (rCatA K) (tTup (tCons (tC (V.int 2)) (tCons (tVar 2) (tCons (tFld K (tVar 3) (Str.ofString "value")) (tCons (tVar 4) tNil))))) (tCall (spTwoR K) [] E (tCons (tVar 0) tNil))) { nx := fun x H' => Q V.non H', rt := Q }
        [some (.ref R.s), some (tv w'), some (.int (k : Int)), some (.ref x6), some (.int (l : Int))] H7 := fun hr l q7 H7 hl b7 S7 => by
    have hx7 := b7 _ _ x6s hx6'
    have hpp : piecesAt (Stt R.b q1) = .ok (n, Stt R.b q6) := by simp only [piecesAt, w1, if_pos hk1, hn, if_neg (show ¬ (n < 2 ∨ 24 < n) by omega), hd6]
    have hl5 : l ≤ 5 := by
      by_cases c : 5 ≤ k
      · rw [if_pos c] at hl
        injection hl with h1 h2
        omega
      · rw [if_neg c] at hl
        have := line_le (Stt R.b q6)
        rw [hl] at this
        exact this
    walk_at "rd"
    refine ⟨by show 4 ≤ sizeLine; decide, fun t ht => ?_⟩
    have S8 := S7.same (Hc.Same.new (o := .tup [.int 2, .int (k : Int), .int (n : Int), .int (l : Int)]) (Same.refl H7) ht)
    have B8 := (B6.trans b7).new (o := .tup [.int 2, .int (k : Int), .int (n : Int), .int (l : Int)]) ht
    refine ⟨_, rfl, (), R, q7, rfl, trivial, S8, ⟨fun e he => (kE e (by simp only [variedAt, hpp, hl, he])).bt B8, fun x q9 he v9 H9 b9 S9 is => ?_⟩⟩
    obtain ⟨⟨p9, ev, hp9⟩, w1', w2', w3'⟩ := is
    subst ev
    have ts : t ≠ R.s := fun z => by rw [z, S7.ob] at ht; cases ht
    have ht9 : H9 t = some (.tup [.int 2, .int (k : Int), .int (n : Int), .int (l : Int)]) := b9 _ _ ts upd_same
    refine ⟨t, p9, _, _, rfl, rfl, SqT.of ht9, SqT.of (of_dn hp9).2, by show 6 ≤ sizeLine; decide, fun z => (by cases z), fun _ z => (by cases z), fun _ _ u hu => ?_⟩
    refine kO (.varied k n l x.1 x.2) q9 (by simp only [variedAt, hpp, hl, he]) _ _ ((B8.trans b9).new hu) (S9.same (Hc.Same.new (Same.refl _) hu)) ⟨⟨u, rfl, dn_of ((B8.trans b9).none S9.ob u hu) upd_same⟩, hk7, hr, hl5, w1', w2', w3'⟩
  walk_at "rd"
  refine iteB (fun c1 => ?_) fun c1 => ?_
  · have c1' := of_decide_eq_true c1
    walk_at "rd"
    show if (!decide ((n : Int) ≤ 24)) = true then _ else _
    refine iteB (fun c2 => bad (.inr ?_)) fun c2 => ?_
    · simp at c2
      omega
    · have hr : 2 ≤ n ∧ n ≤ 24 := ⟨by omega, by simp at c2; omega⟩
      have fin' := fin hr
      walk_at "rd"
      refine iteB (fun c3 => ?_) fun c3 => ?_
      · have c3' : ¬ 5 ≤ k := by have := of_decide_eq_true c3; omega
        have hpp : piecesAt (Stt R.b q1) = .ok (n, Stt R.b q6) := by simp only [piecesAt, w1, if_pos hk1, hn, if_neg (show ¬ (n < 2 ∨ 24 < n) by omega), hd6]
        walk_at "rd"
        refine ⟨(), R, q6, rfl, trivial, S6, ⟨fun e he => (kE e ?_).bt B6, fun l q7 he v7 H7 b7 S7 is => ?_⟩⟩
        · obtain ⟨h1, h2, h3⟩ := lineE_err he
          simp only [variedAt, hpp, if_neg c3', h3, bad_two h1, h2]
        · obtain rfl : v7 = .int (l : Int) := is
          exact fin' l q7 H7 (by rw [if_neg c3', lineE_ok he]) b7 S7
      · have c3' : 5 ≤ k := by have := of_decide_eq_false c3; omega
        exact fin' 0 q6 H6 (by rw [if_pos c3']) Bt.refl S6
  · refine ⟨_, rfl, ?_⟩
    refine iteB (fun _ => bad (.inl ?_)) fun c2 => (by cases c2)
    have := of_decide_eq_false c1
    omega
end
end Hc

namespace Hc
open PySem PySem.Spec PyProof.Rows L2
open Sh ShMarsh ShBlazon
set_option hygiene false
local macro_rules | `(tactic| walk_at "hp") => `(tactic| first | assumption | exact Src.ob (by assumption) | exact Rdr.ob (by assumption) | exact upd_same)
local macro_rules | `(tactic| walk_at "sq") => `(tactic| first | assumption | exact Src.sq (by assumption) | exact Rdr.sq (by assumption) | exact SqL.of (by assumption) | exact SqL.of upd_same | exact SqT.of (by assumption) | exact SqT.of upd_same)
local macro_rules | `(tactic| walk_at "cl") => `(tactic| with_reducible first | exact T.c_Bytes | exact T.c_Coat | exact T.c_Arms | exact T.c_Layer | exact T.c_Token | exact T.c_Reader | exact T.c_Words)
local macro_rules | `(tactic| walk_at "na") => `(tactic| with_reducible first | exact T.n_Bytes_some | exact T.n_Bytes_at | exact T.n_Coat_kind | exact T.n_Coat_arms | exact T.n_Coat_canton | exact T.n_Coat_marks | exact T.n_Coat_coats | exact T.n_Arms_field | exact T.n_Arms_layers | exact T.n_Layer_kind | exact T.n_Layer_numbers | exact T.n_Layer_fill | exact T.n_Token_kind | exact T.n_Token_value | exact T.n_Token_place | exact T.n_Token_behind | exact T.n_Reader_some | exact T.n_Reader_at | exact T.n_Reader_end | exact T.n_Words_some | exact T.n_Words_at)
local macro_rules | `(tactic| walk_at "ai") => `(tactic| first | assumption | exact atI_nat (by assumption) | rfl)
local macro_rules | `(tactic| walk_at "rd1") => `(tactic| first
  | refine ⟨_, rfl, ?_⟩
  | refine ⟨rfl, ?_⟩
  | refine ⟨_, _, rfl, rfl, ?_⟩
  | refine ⟨_, _, _, _, _, rfl, (by walk_at "hp"), (by walk_at "cl"), (by walk_at "na"), (by rfl), ?_⟩
  | refine ⟨_, _, _, _, rfl, (by walk_at "hp"), (by walk_at "cl"), (by walk_at "na"), Nat.le_of_ble_eq_true rfl, ?_⟩
  | refine ⟨_, _, _, _, rfl, rfl, (by walk_at "sq"), (by walk_at "ai"), ?_⟩
  | refine ⟨_, _, rfl, (by first | exact Or.inl (by walk_at "sq") | exact Or.inr (by walk_at "sq")), ?_⟩
  | refine ⟨(by walk_at "ar"), ?_⟩)
local macro_rules | `(tactic| walk_at "ar") => `(tactic| first | exact (show CDiv _ _ from ⟨by decide, by decide⟩) | exact (show (0 : Int) < _ from by decide) | exact (show CMul _ _ from .inl ⟨by omega, by omega⟩) | exact (show CMul _ _ from .inr ⟨by omega, by omega⟩))
local macro_rules | `(tactic| walk_at "rd") => `(tactic| repeat walk_at "rd1")
local macro_rules | `(tactic| walk_at "fa") => `(tactic| first | exact ⟨_, rfl, (by omega), rfl⟩ | exact ⟨_, _, rfl, (by omega), rfl⟩ | exact ⟨_, _, _, rfl, (by omega), rfl⟩ | exact ⟨_, _, _, _, rfl, (by omega), rfl⟩ | exact ⟨_, _, _, _, _, rfl, (by omega), rfl⟩)
local macro_rules | `(tactic| walk_at "vr") => `(tactic| first
  | exact v_var (by rfl)
  | exact v_c
  | (apply v_i0 <;> walk_at "vr")
  | (apply v_i <;> first | walk_at "ar" | walk_at "vr")
  | (apply v_neg <;> walk_at "vr")
  | (apply v_eq <;> walk_at "vr")
  | (apply v_eqB <;> walk_at "vr")
  | (apply v_ne <;> walk_at "vr")
  | (apply v_neB <;> walk_at "vr")
  | (apply v_chain (g := fun _ _ => _) (g' := fun _ _ => _) <;> walk_at "vr")
  | (apply v_and <;> walk_at "vr")
  | (apply v_or <;> walk_at "vr")
  | (apply v_not <;> walk_at "vr")
  | (apply v_ifI <;> walk_at "vr")
  | (apply v_ifB <;> walk_at "vr")
  | (apply v_call <;> first | walk_at "fa" | walk_at "vr")
  | (apply v_abs <;> walk_at "vr")
  | (apply v_min <;> walk_at "vr")
  | exact va_nil
  | (apply va_cons <;> walk_at "vr")
  | (apply a_test <;> walk_at "vr")
  | (apply a_B <;> walk_at "vr")
  | (apply a_and <;> walk_at "vr")
  | (apply a_or <;> walk_at "vr")
  | (apply a_not <;> walk_at "vr"))
local macro_rules | `(tactic| walk_at "rs") => `(tactic| first
  | (apply r_ret; walk_at "vr")
  | (apply r_set; walk_at "vr"; walk_at "rs")
  | (apply r_ifI; walk_at "vr"; intro _; walk_at "rs"; intro _; walk_at "rs")
  | (apply r_ifB; walk_at "vr"; intro _; walk_at "rs"; intro _; walk_at "rs"))

section
variable {P : Program} {w : World} {K : PySem.W.Frag} {mg : Str → Option Value} {base : Heap}
theorem kdct {a : Addr} {x : Str} {v : V} (D : ∃ es n, KDict K w a es n) (h : ∃ u, PySem.W.nsIn K a x = some (some u) ∧ RelV v u) : KDct K w a x v := by
  obtain ⟨es, n, D⟩ := D
  obtain ⟨u, h1, h2⟩ := h
  exact ⟨es, n, u, D.at_, D.lit, h1, h2⟩
theorem ways_len {v : Nat} {w : List UInt8} (h : WAYS7[v]? = some w) : v ≤ 5 ∧ w.length ≤ 100 := by
  have h1 : v < 6 := (List.getElem?_eq_some_iff.mp h).1
  have z : ∀ v : Fin 6, (WAYS7.getD v.val []).length ≤ 100 := by decide +kernel
  have y := z ⟨v, h1⟩
  dsimp only at y
  rw [List.getD_eq_getElem?_getD, h] at y
  exact ⟨Nat.le_of_lt_succ h1, y⟩
def partG (d : Nat) (s : ShBlazon.St) : Except ShBlazon.Fault (Field × ShBlazon.St) := if d = 0 then (match eat WAYWORDS s with
      | .error e => .error e
      | .ok w => partedAt (sinister 2 w.1 w.2).1 (sinister 2 w.1 w.2).2) else partedAt d s
def PartW (i : Nat × List UInt8) : Prop := i = (0, ascii "per") ∨ i = (6, ascii "quarterly") ∨ i = (7, ascii "gyronny")
abbrev spParted (K : PySem.W.Frag) : Sp := spRg (ι := Nat × List UInt8) K (fun i => [tv i.2]) (fun i _ _ _ => PartW i) (fun i => partG i.1) (fun _ _ D v f => IsField D v f ∧ WfField f)
theorem dec_true {p : Prop} [Decidable p] (h : p) : decide p = true := decide_eq_true h
theorem ok_read_parted (T : Txt w K mg) (u_take : Cal P w K mg base (L2.CX P w) 6 "take" p_take (spTake K)) (u_with_sinister : Cal P w K mg base (L2.CX P w) 6 "with_sinister" p_with_sinister (spSin K)) (u_read_line : Cal P w K mg base (L2.CX P w) 6 "read_line" p_read_line (spLineR K)) (u_read_tinctures : Cal P w K mg base (L2.CX P w) 7 "read_tinctures" p_read_tinctures (spTwoR K)) : Cal P w K mg base (L2.CX P w) 8 "read_parted" p_read_parted (spParted K) := by
  refine T.d_read_parted.cal sc_read_parted (fun vs H Q E h => by obtain ⟨_, _, _, rfl, _⟩ := h; rfl) ?_
  intro cdv A outer s0 H vs Q E hr h
  have nd := sc_read_parted.nd
  have tk := tkX (P := P) (w := w) (K := K) (mg := mg) (base := base) (N := n_read_parted) (q := "read_parted") (sc := defScope s_read_parted) (f := He.ga K "read_parted") (cdv := cdv) (A := A) (outer := outer) (s := s0) (H := H) (E := E)
  have pX := paX (P := P) (w := w) (K := K) (mg := mg) (base := base) (N := n_read_parted) (q := "read_parted") (sc := defScope s_read_parted) (f := He.ga K "read_parted") (cdv := cdv) (A := A) (outer := outer) (s := s0) (H := H) (E := E)
  have po := poX (CX := L2.CX P w) (P := P) (w := w) (K := K) (mg := mg) (base := base) (N := n_read_parted) (q := "read_parted") (sc := defScope s_read_parted) (f := He.ga K "read_parted") (cdv := cdv) (A := A) (outer := outer) (s := s0) (H := H) (E := E)
  have h_take : Room (6) _ := hr.mono (by omega)
  have h_with_sinister : Room (6) _ := hr.mono (by omega)
  have h_read_line : Room (6) _ := hr.mono (by omega)
  have h_read_tinctures : Room (7) _ := hr.mono (by omega)
  refine ⟨_, (pss_cons (ps_if (pt_cmpR op_eq (pv 1) pe_str (nomark _)) (pss_one (ps_set (i := 2) nd rfl (Or.inl rfl) (pe_bm PySem.F.plainAttrs_tuple PySem.F.slot_tuple_index PySem.F.type_tuple_index mt_tup_index (pe_gr T.g_WAYS) (pa_cons (pe_cal u_with_sinister (h_with_sinister) pX (pa_cons (pv 0) (pa_cons (pe_fld (pe_cal u_take (h_take) pX (pa_cons (pv 0) (pa_cons (pe_gr T.g_WAYS) pa_nil))) rfl) pa_nil))) pa_nil)))) (pss_one (ps_set (i := 2) nd rfl (Or.inl rfl) (pe_ix ix_kdict (pe_gr T.g_ALONE) (pv 1) (fun _ _ => rfl)))))
      (pss_one (ps_ret (pe_op op_catA (pe_tup (pa_cons (pe_gi T.i_PARTED) (pa_cons (pv 2) (pa_cons (pe_cal u_read_line (h_read_line) pX (pa_cons (pv 0) pa_nil)) pa_nil)))) (pe_cal u_read_tinctures (h_read_tinctures) pX (pa_cons (pv 0) pa_nil)))))), ?_⟩
  try dsimp only [cxOf]
  clear h_read_tinctures h_read_line h_with_sinister h_take po pX tk nd
  obtain ⟨⟨d0, w'⟩, R, q, rfl, hd, S, RP⟩ := h
  dsimp only at hd RP
  have kE := RP.err
  have kO := RP.ok
  clear RP
  have fin : ∀ (d q2 : Nat) (H2 : Hp), partG d0 (Stt R.b q) = partedAt d (Stt R.b q2) → d ≤ 7 → Bt R.s H H2 → Rdr K H2 R q2 →
      tRet (tOp (rCatA K) (tTup (tCons (tC (V.int 1)) (tCons (tVar 2) (tCons (tCall (spLineR K) [] E (tCons (tVar 0) tNil)) tNil)))) (tCall (spTwoR K) [] E (tCons (tVar 0) tNil))) { nx := fun x H' => Q V.non H', rt := Q }
        [some (.ref R.s), some (tv w'), some (.int (d : Int))] H2 := fun d q2 H2 eg hd7 b2 S2 => by
    rw [eg] at kE kO
    walk_at "rd"
    refine ⟨(), R, q2, rfl, trivial, S2, ⟨fun e he => (kE e ?_).bt b2, fun l q7 he v7 H7 b7 S7 is => ?_⟩⟩
    · obtain ⟨h1, h2, h3⟩ := lineE_err he
      simp only [partedAt, h3, bad_two h1, h2]
    obtain rfl : v7 = .int (l : Int) := is
    have hl := lineE_ok he
    have hl5 : l ≤ 5 := by
      have := line_le (Stt R.b q2)
      rw [hl] at this
      exact this
    refine ⟨by show 3 ≤ sizeLine; decide, fun t ht => ?_⟩
    have S8 := S7.same (Hc.Same.new (o := .tup [.int 1, .int (d : Int), .int (l : Int)]) (Same.refl H7) ht)
    have B8 := (b2.trans b7).new (o := .tup [.int 1, .int (d : Int), .int (l : Int)]) ht
    refine ⟨_, rfl, (), R, q7, rfl, trivial, S8, ⟨fun e he => (kE e (by simp only [partedAt, hl, he])).bt B8, fun x q9 he v9 H9 b9 S9 is => ?_⟩⟩
    obtain ⟨⟨p9, ev, hp9⟩, w1', w2', w3'⟩ := is
    subst ev
    have ts : t ≠ R.s := fun z => by rw [z, S7.ob] at ht; cases ht
    have ht9 : H9 t = some (.tup [.int 1, .int (d : Int), .int (l : Int)]) := b9 _ _ ts upd_same
    refine ⟨t, p9, _, _, rfl, rfl, SqT.of ht9, SqT.of (of_dn hp9).2, by show 5 ≤ sizeLine; decide, fun z => (by cases z), fun _ z => (by cases z), fun _ _ u hu => ?_⟩
    exact kO (.parted d l x.1 x.2) q9 (by simp only [partedAt, hl, he]) _ _ ((B8.trans b9).new hu) (S9.same (Hc.Same.new (Same.refl _) hu)) ⟨⟨u, rfl, dn_of ((B8.trans b9).none S9.ob u hu) upd_same⟩, hd7, hl5, w1', w2', w3'⟩
  rcases hd with hd | hd | hd
  · injection hd with h1 h2
    subst h1 h2
    walk_at "rd"
    refine iteB (fun c => ?_) fun c => ?_
    · refine ⟨T.y_WAYS.ty, _, rfl, _, rfl, R, q, _, WAYS7, rfl, S, .inr (t_ways ▸ T.t_WAYS _), fun e he => kE e ?_, fun x q1 he y dx H1 b1 S1 ny hy => ?_⟩
      · simp only [partG, if_true, takeE_err tab_way (ok_stt S.le) he]
      obtain ⟨k, e1, e2, e3, e4, e5, e6, e7, e8, e9⟩ := takeE_ok tab_way (ok_stt S.le) he
      walk_at "rd"
      refine ⟨x.1, R, q1, rfl, (ways_len e4).2, S1, ⟨fun e he => (kE e ?_).bt b1, fun u q2 he v2 H2 b2 S2 is => ?_⟩⟩
      · obtain ⟨h1, h2, h3⟩ := sinE_err (sin_err sin_way e4 he)
        simp only [partG, if_true, e1, h3, bad_parted h1, h2]
      obtain ⟨k2, f1, f2, f3⟩ := sin_ok sin_way e4 he
      have f4 := sinE_ok f1
      obtain rfl : v2 = tv u := is
      refine ⟨_, _, _, _, rfl, rfl, tup_a (T.t_WAYS _) t_ways, tup_b f2, tup_c f3, ?_⟩
      exact fin k2 q2 H2 (by simp only [partG, if_true, e1, f4]) (by have := (ways_len f2).1; omega) (b1.trans b2) S2
    · exact absurd c (by rw [show decide (tv (ascii "per") = V.str (Str.ofString "per")) = true by decide +kernel]; decide)
  · injection hd with h1 h2
    subst h1 h2
    walk_at "rd"
    refine ⟨_, _, _, rfl, rfl, (show tx (ascii "quarterly") = Str.ofString "quarterly" by decide +kernel) ▸ kdct T.k_ALONE T.v_ALONE_quarterly, ?_⟩
    exact fin 6 q H rfl (by decide) Bt.refl S
  · injection hd with h1 h2
    subst h1 h2
    walk_at "rd"
    refine ⟨_, _, _, rfl, rfl, (show tx (ascii "gyronny") = Str.ofString "gyronny" by decide +kernel) ▸ kdct T.k_ALONE T.v_ALONE_gyronny, ?_⟩
    exact fin 7 q H rfl (by decide) Bt.refl S
end
end Hc

namespace Hc
open PySem PySem.Spec PyProof.Rows L2
open Sh ShMarsh ShBlazon
set_option hygiene false
local macro_rules | `(tactic| walk_at "hp") => `(tactic| first | assumption | exact Src.ob (by assumption) | exact Rdr.ob (by assumption) | exact upd_same)
local macro_rules | `(tactic| walk_at "sq") => `(tactic| first | assumption | exact Src.sq (by assumption) | exact Rdr.sq (by assumption) | exact SqL.of (by assumption) | exact SqL.of upd_same | exact SqT.of (by assumption) | exact SqT.of upd_same)
local macro_rules | `(tactic| walk_at "cl") => `(tactic| with_reducible first | exact T.c_Bytes | exact T.c_Coat | exact T.c_Arms | exact T.c_Layer | exact T.c_Token | exact T.c_Reader | exact T.c_Words)
local macro_rules | `(tactic| walk_at "na") => `(tactic| with_reducible first | exact T.n_Bytes_some | exact T.n_Bytes_at | exact T.n_Coat_kind | exact T.n_Coat_arms | exact T.n_Coat_canton | exact T.n_Coat_marks | exact T.n_Coat_coats | exact T.n_Arms_field | exact T.n_Arms_layers | exact T.n_Layer_kind | exact T.n_Layer_numbers | exact T.n_Layer_fill | exact T.n_Token_kind | exact T.n_Token_value | exact T.n_Token_place | exact T.n_Token_behind | exact T.n_Reader_some | exact T.n_Reader_at | exact T.n_Reader_end | exact T.n_Words_some | exact T.n_Words_at)
local macro_rules | `(tactic| walk_at "ai") => `(tactic| first | assumption | exact atI_nat (by assumption) | rfl)
local macro_rules | `(tactic| walk_at "rd1") => `(tactic| first
  | refine ⟨_, rfl, ?_⟩
  | refine ⟨rfl, ?_⟩
  | refine ⟨_, _, rfl, rfl, ?_⟩
  | refine ⟨_, _, _, _, _, rfl, (by walk_at "hp"), (by walk_at "cl"), (by walk_at "na"), (by rfl), ?_⟩
  | refine ⟨_, _, _, _, rfl, (by walk_at "hp"), (by walk_at "cl"), (by walk_at "na"), Nat.le_of_ble_eq_true rfl, ?_⟩
  | refine ⟨_, _, _, _, rfl, rfl, (by walk_at "sq"), (by walk_at "ai"), ?_⟩
  | refine ⟨_, _, rfl, (by first | exact Or.inl (by walk_at "sq") | exact Or.inr (by walk_at "sq")), ?_⟩
  | refine ⟨(by walk_at "ar"), ?_⟩)
local macro_rules | `(tactic| walk_at "ar") => `(tactic| first | exact (show CDiv _ _ from ⟨by decide, by decide⟩) | exact (show (0 : Int) < _ from by decide) | exact (show CMul _ _ from .inl ⟨by omega, by omega⟩) | exact (show CMul _ _ from .inr ⟨by omega, by omega⟩))
local macro_rules | `(tactic| walk_at "rd") => `(tactic| repeat walk_at "rd1")
local macro_rules | `(tactic| walk_at "fa") => `(tactic| first | exact ⟨_, rfl, (by omega), rfl⟩ | exact ⟨_, _, rfl, (by omega), rfl⟩ | exact ⟨_, _, _, rfl, (by omega), rfl⟩ | exact ⟨_, _, _, _, rfl, (by omega), rfl⟩ | exact ⟨_, _, _, _, _, rfl, (by omega), rfl⟩)
local macro_rules | `(tactic| walk_at "vr") => `(tactic| first
  | exact v_var (by rfl)
  | exact v_c
  | (apply v_i0 <;> walk_at "vr")
  | (apply v_i <;> first | walk_at "ar" | walk_at "vr")
  | (apply v_neg <;> walk_at "vr")
  | (apply v_eq <;> walk_at "vr")
  | (apply v_eqB <;> walk_at "vr")
  | (apply v_ne <;> walk_at "vr")
  | (apply v_neB <;> walk_at "vr")
  | (apply v_chain (g := fun _ _ => _) (g' := fun _ _ => _) <;> walk_at "vr")
  | (apply v_and <;> walk_at "vr")
  | (apply v_or <;> walk_at "vr")
  | (apply v_not <;> walk_at "vr")
  | (apply v_ifI <;> walk_at "vr")
  | (apply v_ifB <;> walk_at "vr")
  | (apply v_call <;> first | walk_at "fa" | walk_at "vr")
  | (apply v_abs <;> walk_at "vr")
  | (apply v_min <;> walk_at "vr")
  | exact va_nil
  | (apply va_cons <;> walk_at "vr")
  | (apply a_test <;> walk_at "vr")
  | (apply a_B <;> walk_at "vr")
  | (apply a_and <;> walk_at "vr")
  | (apply a_or <;> walk_at "vr")
  | (apply a_not <;> walk_at "vr"))
local macro_rules | `(tactic| walk_at "rs") => `(tactic| first
  | (apply r_ret; walk_at "vr")
  | (apply r_set; walk_at "vr"; walk_at "rs")
  | (apply r_ifI; walk_at "vr"; intro _; walk_at "rs"; intro _; walk_at "rs")
  | (apply r_ifB; walk_at "vr"; intro _; walk_at "rs"; intro _; walk_at "rs"))

section
variable {P : Program} {w : World} {K : PySem.W.Frag} {mg : Str → Option Value} {base : Heap}
theorem dn_back {s : Addr} {so : HO} {H H1 H2 : Hp} (b : Bt s H H1) (hs : H1 s = some so) : Same (Dn H1 H2) (Dn H H2) := dn_mono (fun a h => b.none hs a h) fun _ _ _ q => q
def FIELDW : List (List UInt8) := ((TINCTWORDS ++ [ascii "per"]) ++ [ascii "quarterly", ascii "gyronny"]) ++ VARS7
theorem field_bad {s : ShBlazon.St} (ok : OkS s) (h : ¬ (kindOf s = 0 ∧ wordOf s ∈ FIELDW)) : ShBlazon.fieldAt s = .error (wanted s) := by
  have n1 : look TINCTWORDS s = none := tab_no tab_tinct ok fun z => h ⟨z.1, by unfold FIELDW; simp only [List.mem_append]; exact .inl (.inl (.inl z.2))⟩
  have n2 : isWord s "per" = false := word_false fun z => h ⟨z.1, by unfold FIELDW; simp only [List.mem_append]; exact .inl (.inl (.inr z.2))⟩
  have n3 : isWord s "quarterly" = false := word_false fun z => h ⟨z.1, by
    have z2 := List.mem_singleton.mp z.2
    rw [z2]
    decide +kernel⟩
  have n4 : isWord s "gyronny" = false := word_false fun z => h ⟨z.1, by
    have z2 := List.mem_singleton.mp z.2
    rw [z2]
    decide +kernel⟩
  have n5 : eat VARYWORDS s = .error (wanted s) := by
    unfold eat
    rw [tab_no tab_var ok fun z => h ⟨z.1, by unfold FIELDW; simp only [List.mem_append]; exact .inr z.2⟩]
  unfold ShBlazon.fieldAt
  rw [n1]
  dsimp only
  rw [n2, n3, n4, n5]
  rfl
theorem vary_words : ∀ w ∈ VARS7, w ≠ ascii "per" ∧ w ≠ ascii "quarterly" ∧ w ≠ ascii "gyronny" := by decide +kernel
theorem is_not {s : ShBlazon.St} {x : String} (h : wordOf s ≠ ascii x) : isWord s x = false := word_false fun z => h (List.mem_singleton.mp z.2)
theorem is_yes {s : ShBlazon.St} {x : String} (hk : kindOf s = 0) (h : wordOf s = ascii x) : isWord s x = true := word_iff.mpr ⟨hk, by rw [h]; simp⟩
abbrev spFieldR (K : PySem.W.Frag) : Sp := spRg (ι := Unit) K (fun _ => []) (fun _ _ _ _ => True) (fun _ => ShBlazon.fieldAt) (fun _ _ D v f => IsField D v f ∧ WfField f)
theorem ok_read_field (T : Txt w K mg) (u_is_next : Cal P w K mg base (L2.CX P w) 5 "is_next" p_is_next (spNext K)) (u_want : Cal P w K mg base (L2.CX P w) 5 "want" p_want (spWant K)) (u_pass_token : Cal P w K mg base (L2.CX P w) 5 "pass_token" p_pass_token (spPass K)) (u_read_varied : Cal P w K mg base (L2.CX P w) 8 "read_varied" p_read_varied (spVaried K)) (u_read_parted : Cal P w K mg base (L2.CX P w) 8 "read_parted" p_read_parted (spParted K)) : Cal P w K mg base (L2.CX P w) 9 "read_field" p_read_field (spFieldR K) := by
  refine T.d_read_field.cal sc_read_field (fun vs H Q E h => by obtain ⟨_, _, _, rfl, _⟩ := h; rfl) ?_
  intro cdv A outer s0 H vs Q E hr h
  have nd := sc_read_field.nd
  have tk := tkX (P := P) (w := w) (K := K) (mg := mg) (base := base) (N := n_read_field) (q := "read_field") (sc := defScope s_read_field) (f := He.ga K "read_field") (cdv := cdv) (A := A) (outer := outer) (s := s0) (H := H) (E := E)
  have pX := paX (P := P) (w := w) (K := K) (mg := mg) (base := base) (N := n_read_field) (q := "read_field") (sc := defScope s_read_field) (f := He.ga K "read_field") (cdv := cdv) (A := A) (outer := outer) (s := s0) (H := H) (E := E)
  have po := poX (CX := L2.CX P w) (P := P) (w := w) (K := K) (mg := mg) (base := base) (N := n_read_field) (q := "read_field") (sc := defScope s_read_field) (f := He.ga K "read_field") (cdv := cdv) (A := A) (outer := outer) (s := s0) (H := H) (E := E)
  have h_is_next : Room (5) _ := hr.mono (by omega)
  have h_want : Room (5) _ := hr.mono (by omega)
  have h_pass_token : Room (5) _ := hr.mono (by omega)
  have h_read_varied : Room (8) _ := hr.mono (by omega)
  have h_read_parted : Room (8) _ := hr.mono (by omega)
  refine ⟨_, (pss_cons (ps_expr (pe_cal u_want (h_want) pX (pa_cons (pv 0) (pa_cons (pe_cal u_is_next (h_is_next) pX (pa_cons (pv 0) (pa_cons (pe_op op_catA (pe_op op_catA (pe_op op_catA (pe_gr T.g_TINCTURES) (pe_tup (pa_cons pe_str pa_nil))) (pe_tupKd T.u_ALONE (by decide) rfl (by rfl) T.f_tuple (pe_gr T.g_ALONE))) (pe_gr T.g_VARIETIES)) pa_nil))) pa_nil))))
      (pss_cons (ps_set (i := 1) nd rfl (Or.inl rfl) (pe_fld (pe_cal u_pass_token (h_pass_token) pX (pa_cons (pv 0) pa_nil)) rfl))
      (pss_cons (ps_if (pt_cmpR op_in_seq (pv 1) (pe_gr T.g_TINCTURES) rfl) (pss_one (ps_ret (pe_tup (pa_cons (pe_gi T.i_PLAIN) (pa_cons (pe_bm PySem.F.plainAttrs_tuple PySem.F.slot_tuple_index PySem.F.type_tuple_index mt_tup_index (pe_gr T.g_TINCTURES) (pa_cons (pv 1) pa_nil)) pa_nil))))) pss_nil)
      (pss_one (ps_ret (pe_ifExp (pt_cmpR op_in_seq (pv 1) (pe_gr T.g_VARIETIES) rfl) (pe_cal u_read_varied (h_read_varied) pX (pa_cons (pv 0) (pa_cons (pv 1) pa_nil))) (pe_cal u_read_parted (h_read_parted) pX (pa_cons (pv 0) (pa_cons (pv 1) pa_nil))))))))), ?_⟩
  try dsimp only [cxOf]
  clear h_read_parted h_read_varied h_pass_token h_want h_is_next po pX tk nd
  obtain ⟨_, R, q, rfl, _, S, RP⟩ := h
  dsimp only at RP
  have kE := RP.err
  have kO := RP.ok
  clear RP
  have ok := ok_stt S.le
  have fail : ¬ (kindOf (Stt R.b q) = 0 ∧ wordOf (Stt R.b q) ∈ FIELDW) → Fl K R H E (wanted (Stt R.b q)) := fun z => kE _ (field_bad ok z)
  walk_at "rd"
  refine ⟨by show 1 ≤ sizeLine; decide, fun p1 hp1 => ?_⟩
  refine ⟨_, _, _, _, rfl, rfl, T.t_TINCTURES _, SqT.of upd_same, by show 10 ≤ sizeLine; decide, fun z => (by cases z), fun _ z => (by cases z), fun _ _ => ?_⟩
  have s1 : Same H (upd H p1 (.tup [V.str (Str.ofString "per")])) := Hc.Same.new (Same.refl H) hp1
  refine fun p2 hp_ => ?_
  generalize hH_ : upd _ p2 _ = H2
  have s2 := new_same hH_ hp_
  have hp2 := new_at hH_ (show w_TINCTURES ++ [V.str (Str.ofString "per")] = (TINCTWORDS ++ [ascii "per"]).map tv by decide +kernel)
  clear hH_ hp_
  have s02 : Same H H2 := fun b o y => s2 _ _ (s1 _ _ y)
  clear s1 s2
  refine ⟨rfl, ?_⟩
  refine fun p3 hp_ => ?_
  generalize hH_ : upd _ p3 _ = H3
  have s3 := new_same hH_ hp_
  have hp3 := new_at hH_ (show [Str.ofString "quarterly", Str.ofString "gyronny"].map V.str = [ascii "quarterly", ascii "gyronny"].map tv by decide +kernel)
  clear hH_ hp_
  refine ⟨_, _, _, _, rfl, rfl, SqT.of (s3 _ _ hp2), SqT.of hp3, by show 12 ≤ sizeLine; decide, fun z => (by cases z), fun _ z => (by cases z), fun _ _ => ?_⟩
  refine fun p4 hp_ => ?_
  generalize hH_ : upd _ p4 _ = H4
  have s4 := new_same hH_ hp_
  have hp4 := new_at hH_ (List.map_append ..).symm
  clear hH_ hp_
  refine ⟨_, _, _, _, rfl, rfl, SqT.of hp4, T.t_VARIETIES _, by show 19 ≤ sizeLine; decide, fun z => (by cases z), fun _ z => (by cases z), fun _ _ => ?_⟩
  refine fun p5 hp_ => ?_
  generalize hH_ : upd _ p5 _ = H5
  have s5 := new_same hH_ hp_
  have hp5 := new_at hH_ (show _ = FIELDW.map tv by rw [t_vars]; exact (List.map_append ..).symm)
  clear hH_ hp_
  have s05 : Same H H5 := fun b o y => s5 _ _ (s4 _ _ (s3 _ _ (s02 _ _ y)))
  clear s02 s3 s4 s5 hp2 hp3 hp4
  have S5 := S.same s05
  walk_at "rd"
  refine ⟨R, q, p5, _, rfl, S5, .inr (SqT.of hp5), fun z => (fail (by omega)).bt (.same s05), fun hk H6 s6 => ?_⟩
  have S6 := S5.same s6
  have s06 : Same H H6 := fun b o y => s6 _ _ (s05 _ _ y)
  refine ⟨R, q, _, rfl, S6, fun z => (fail (of_decide_eq_false z)).bt (.same s06), fun z H7 s7 => ?_⟩
  have hw := of_decide_eq_true z
  have S7 := S6.same s7
  have s07 : Same H H7 := fun b o y => s7 _ _ (s06 _ _ y)
  walk_at "rd"
  refine ⟨R, q, rfl, S7, by have := hw.1; omega, fun x dx q1 H8 hd hq b8 S8 nx hx => ?_⟩
  have B8 := (Bt.same s07).trans b8
  walk_at "rd"
  rw [tokV_0 hw.1]
  refine ⟨_, _, rfl, .inr (T.t_TINCTURES _), rfl, (by rw [t_tinct]; exact flat_tv _), ?_⟩
  rw [if_neg (by decide), t_tinct, in_tv]
  refine ⟨_, rfl, ?_⟩
  refine iteB (fun c => ?_) fun c => ?_
  · obtain ⟨k, h1, h2, h3, h4⟩ := tab_yes tab_tinct ok ⟨hw.1, of_decide_eq_true c⟩
    refine ⟨T.y_TINCTURES.ty, _, rfl, _, _, _, _, rfl, rfl, tup_a (T.t_TINCTURES _) t_tinct, tup_b h3, tup_c h4, ?_⟩
    refine ⟨by show 2 ≤ sizeLine; decide, fun t ht => ?_⟩
    refine kO (.plain k) q1 ?_ _ _ (B8.new ht) (S8.same (Hc.Same.new (Same.refl _) ht)) ⟨⟨t, rfl, dn_of (B8.none S8.ob t ht) upd_same⟩, ?_⟩
    · unfold ShBlazon.fieldAt
      rw [h1, hd]
    · have : k < 9 := h2
      exact Nat.le_of_lt_succ this
  · have n1 : look TINCTWORDS (Stt R.b q) = none := tab_no tab_tinct ok fun z => of_decide_eq_false c z.2
    walk_at "rd"
    refine ⟨_, _, rfl, .inr (T.t_VARIETIES _), rfl, (by rw [t_vars]; exact flat_tv _), ?_⟩
    rw [if_neg (by decide), t_vars, in_tv]
    refine ⟨_, rfl, ?_⟩
    refine iteB (fun c2 => ?_) fun c2 => ?_
    · have c2' := of_decide_eq_true c2
      obtain ⟨k, h1, h2, h3, h4⟩ := tab_yes tab_var ok ⟨hw.1, c2'⟩
      obtain ⟨v1, v2, v3⟩ := vary_words _ c2'
      have eg : ShBlazon.fieldAt (Stt R.b q) = variedAt (sinister 2 k (Stt R.b q1)).1 (sinister 2 k (Stt R.b q1)).2 := by
        unfold ShBlazon.fieldAt
        rw [n1]
        dsimp only
        rw [is_not v1, is_not v2, is_not v3]
        simp only [eat, h1, hd]
        rfl
      rw [eg] at kE kO
      walk_at "rd"
      exact ⟨(k, wordOf (Stt R.b q)), R, q1, rfl, h3, S8, ⟨fun e he => (kE e he).bt B8, fun f q' he v H9 b9 S9 is => kO f q' he v H9 (B8.trans b9) S9 ⟨IsField.up (dn_back B8 S8.ob) is.1, is.2⟩⟩⟩
    · walk_at "rd"
      have n5 : wordOf (Stt R.b q) = ascii "per" ∨ wordOf (Stt R.b q) = ascii "quarterly" ∨ wordOf (Stt R.b q) = ascii "gyronny" := by
        have z := hw.2
        unfold FIELDW at z
        simp only [List.mem_append, List.mem_cons, List.not_mem_nil, or_false] at z
        rcases z with ((z | z) | z) | z
        · exact absurd z (of_decide_eq_false c)
        · exact .inl z
        · exact .inr z
        · exact absurd z (of_decide_eq_false c2)
      have go : ∀ d : Nat, PartW (d, wordOf (Stt R.b q)) → ShBlazon.fieldAt (Stt R.b q) = partG d (Stt R.b q1) → spParted K ([.ref R.s, tv (wordOf (Stt R.b q))] ++ []) H8 Q E := fun d hp eg => by
        rw [eg] at kE kO
        exact ⟨(d, wordOf (Stt R.b q)), R, q1, rfl, hp, S8, ⟨fun e he => (kE e he).bt B8, fun f q' he v H9 b9 S9 is => kO f q' he v H9 (B8.trans b9) S9 ⟨IsField.up (dn_back B8 S8.ob) is.1, is.2⟩⟩⟩
      rcases n5 with e | e | e
      · refine go 0 (by rw [e]; exact .inl rfl) ?_
        unfold ShBlazon.fieldAt partG
        rw [n1]
        dsimp only
        rw [is_yes hw.1 e, hd]
        rfl
      · refine go 6 (by rw [e]; exact .inr (.inl rfl)) ?_
        unfold ShBlazon.fieldAt partG
        rw [n1]
        dsimp only
        rw [is_yes hw.1 e, is_not (x := "per") (by rw [e]; decide +kernel), hd]
        rfl
      · refine go 7 (by rw [e]; exact .inr (.inr rfl)) ?_
        unfold ShBlazon.fieldAt partG
        rw [n1]
        dsimp only
        rw [is_yes hw.1 e, is_not (x := "per") (by rw [e]; decide +kernel), is_not (x := "quarterly") (by rw [e]; decide +kernel), hd]
        rfl
end
end Hc

namespace Hc
open PySem PySem.Spec PyProof.Rows L2
open Sh ShMarsh ShBlazon
set_option hygiene false
local macro_rules | `(tactic| walk_at "hp") => `(tactic| first | assumption | exact Src.ob (by assumption) | exact Rdr.ob (by assumption) | exact upd_same)
local macro_rules | `(tactic| walk_at "sq") => `(tactic| first | assumption | exact Src.sq (by assumption) | exact Rdr.sq (by assumption) | exact SqL.of (by assumption) | exact SqL.of upd_same | exact SqT.of (by assumption) | exact SqT.of upd_same)
local macro_rules | `(tactic| walk_at "cl") => `(tactic| with_reducible first | exact T.c_Bytes | exact T.c_Coat | exact T.c_Arms | exact T.c_Layer | exact T.c_Token | exact T.c_Reader | exact T.c_Words)
local macro_rules | `(tactic| walk_at "na") => `(tactic| with_reducible first | exact T.n_Bytes_some | exact T.n_Bytes_at | exact T.n_Coat_kind | exact T.n_Coat_arms | exact T.n_Coat_canton | exact T.n_Coat_marks | exact T.n_Coat_coats | exact T.n_Arms_field | exact T.n_Arms_layers | exact T.n_Layer_kind | exact T.n_Layer_numbers | exact T.n_Layer_fill | exact T.n_Token_kind | exact T.n_Token_value | exact T.n_Token_place | exact T.n_Token_behind | exact T.n_Reader_some | exact T.n_Reader_at | exact T.n_Reader_end | exact T.n_Words_some | exact T.n_Words_at)
local macro_rules | `(tactic| walk_at "ai") => `(tactic| first | assumption | exact atI_nat (by assumption) | rfl)
local macro_rules | `(tactic| walk_at "rd1") => `(tactic| first
  | refine ⟨_, rfl, ?_⟩
  | refine ⟨rfl, ?_⟩
  | refine ⟨_, _, rfl, rfl, ?_⟩
  | refine ⟨_, _, _, _, _, rfl, (by walk_at "hp"), (by walk_at "cl"), (by walk_at "na"), (by rfl), ?_⟩
  | refine ⟨_, _, _, _, rfl, (by walk_at "hp"), (by walk_at "cl"), (by walk_at "na"), Nat.le_of_ble_eq_true rfl, ?_⟩
  | refine ⟨_, _, _, _, rfl, rfl, (by walk_at "sq"), (by walk_at "ai"), ?_⟩
  | refine ⟨_, _, rfl, (by first | exact Or.inl (by walk_at "sq") | exact Or.inr (by walk_at "sq")), ?_⟩
  | refine ⟨(by walk_at "ar"), ?_⟩)
local macro_rules | `(tactic| walk_at "ar") => `(tactic| first | exact (show CDiv _ _ from ⟨by decide, by decide⟩) | exact (show (0 : Int) < _ from by decide) | exact (show CMul _ _ from .inl ⟨by omega, by omega⟩) | exact (show CMul _ _ from .inr ⟨by omega, by omega⟩))
local macro_rules | `(tactic| walk_at "rd") => `(tactic| repeat walk_at "rd1")
local macro_rules | `(tactic| walk_at "fa") => `(tactic| first | exact ⟨_, rfl, (by omega), rfl⟩ | exact ⟨_, _, rfl, (by omega), rfl⟩ | exact ⟨_, _, _, rfl, (by omega), rfl⟩ | exact ⟨_, _, _, _, rfl, (by omega), rfl⟩ | exact ⟨_, _, _, _, _, rfl, (by omega), rfl⟩)
local macro_rules | `(tactic| walk_at "vr") => `(tactic| first
  | exact v_var (by rfl)
  | exact v_c
  | (apply v_i0 <;> walk_at "vr")
  | (apply v_i <;> first | walk_at "ar" | walk_at "vr")
  | (apply v_neg <;> walk_at "vr")
  | (apply v_eq <;> walk_at "vr")
  | (apply v_eqB <;> walk_at "vr")
  | (apply v_ne <;> walk_at "vr")
  | (apply v_neB <;> walk_at "vr")
  | (apply v_chain (g := fun _ _ => _) (g' := fun _ _ => _) <;> walk_at "vr")
  | (apply v_and <;> walk_at "vr")
  | (apply v_or <;> walk_at "vr")
  | (apply v_not <;> walk_at "vr")
  | (apply v_ifI <;> walk_at "vr")
  | (apply v_ifB <;> walk_at "vr")
  | (apply v_call <;> first | walk_at "fa" | walk_at "vr")
  | (apply v_abs <;> walk_at "vr")
  | (apply v_min <;> walk_at "vr")
  | exact va_nil
  | (apply va_cons <;> walk_at "vr")
  | (apply a_test <;> walk_at "vr")
  | (apply a_B <;> walk_at "vr")
  | (apply a_and <;> walk_at "vr")
  | (apply a_or <;> walk_at "vr")
  | (apply a_not <;> walk_at "vr"))
local macro_rules | `(tactic| walk_at "rs") => `(tactic| first
  | (apply r_ret; walk_at "vr")
  | (apply r_set; walk_at "vr"; walk_at "rs")
  | (apply r_ifI; walk_at "vr"; intro _; walk_at "rs"; intro _; walk_at "rs")
  | (apply r_ifB; walk_at "vr"; intro _; walk_at "rs"; intro _; walk_at "rs"))

section
variable {P : Program} {w : World} {K : PySem.W.Frag} {mg : Str → Option Value} {base : Heap}
theorem armsPre.rd {i : Addr × Field} {R : Rs} {q : Nat} {H H' : Hp} (h : armsPre K i H) (S : Rdr K H R q) (e : Bt R.s H H') : armsPre K i H' := by
  obtain ⟨dx', ff, l, h1, h2⟩ := h
  refine ⟨dx', ff, l, e _ _ (ne_of h1 S.ob ?_) h1, e _ _ (ne_of h2 S.ob (by intro z; cases z)) h2⟩
  intro z
  have q : armF (.ref ff) l = rdF R.c (R.o + q) (R.o + R.b.length) := by injection z
  have q1 : (("field" : Str), V.ref ff) = (("some" : Str), V.ref R.c) := (List.cons.inj q).1
  exact absurd (show ("field" : Str) = "some" from congrArg Prod.fst q1) (by decide +kernel)
theorem ndt {b : Bool} (h : (!b) = true) : b = false := by cases b <;> simp_all
theorem ndf {b : Bool} (h : (!b) = false) : b = true := by cases b <;> simp_all
theorem lit_counter : [V.str (Str.ofString "counterchanged")] = [ascii "counterchanged"].map tv := by decide +kernel
theorem lit_in : [V.str (Str.ofString "in")] = [ascii "in"].map tv := by decide +kernel
abbrev spFillR (K : PySem.W.Frag) : Sp := spRg (ι := Addr × Field) K (fun i => [.ref i.1]) (fun i _ _ H => armsPre K i H) (fun i => ShBlazon.fillAt i.2) (fun i _ D v x => IsFill D v x ∧ WfFill i.2 x)
theorem ok_read_fill (T : Txt w K mg) (u_is_next : Cal P w K mg base (L2.CX P w) 5 "is_next" p_is_next (spNext K)) (u_read_field : Cal P w K mg base (L2.CX P w) 9 "read_field" p_read_field (spFieldR K)) (u_pass_token : Cal P w K mg base (L2.CX P w) 5 "pass_token" p_pass_token (spPass K)) (q_Fault : Exq P w K mg base 1 "Fault" p_Fault_init (spErr2 K "Fault")) : Cal P w K mg base (L2.CX P w) 10 "read_fill" p_read_fill (spFillR K) := by
  refine T.d_read_fill.cal sc_read_fill (fun vs H Q E h => by obtain ⟨_, _, _, rfl, _⟩ := h; rfl) ?_
  intro cdv A outer s0 H vs Q E hr h
  have nd := sc_read_fill.nd
  have tk := tkX (P := P) (w := w) (K := K) (mg := mg) (base := base) (N := n_read_fill) (q := "read_fill") (sc := defScope s_read_fill) (f := He.ga K "read_fill") (cdv := cdv) (A := A) (outer := outer) (s := s0) (H := H) (E := E)
  have pX := paX (P := P) (w := w) (K := K) (mg := mg) (base := base) (N := n_read_fill) (q := "read_fill") (sc := defScope s_read_fill) (f := He.ga K "read_fill") (cdv := cdv) (A := A) (outer := outer) (s := s0) (H := H) (E := E)
  have po := poX (CX := L2.CX P w) (P := P) (w := w) (K := K) (mg := mg) (base := base) (N := n_read_fill) (q := "read_fill") (sc := defScope s_read_fill) (f := He.ga K "read_fill") (cdv := cdv) (A := A) (outer := outer) (s := s0) (H := H) (E := E)
  have h_is_next : Room (5) _ := hr.mono (by omega)
  have h_read_field : Room (9) _ := hr.mono (by omega)
  have h_pass_token : Room (5) _ := hr.mono (by omega)
  have h_Fault : Room (2) _ := hr.mono (by omega)
  refine ⟨_, (pss_cons (ps_if (pt_not (pt_val (pe_cal u_is_next (h_is_next) pX (pa_cons (pv 0) (pa_cons (pe_tup (pa_cons pe_str pa_nil)) pa_nil))))) (pss_one (ps_ret (pe_cal u_read_field (h_read_field) pX (pa_cons (pv 0) pa_nil)))) pss_nil)
      (pss_cons (ps_set (i := 2) nd rfl (Or.inl rfl) (pe_cal u_pass_token (h_pass_token) pX (pa_cons (pv 0) pa_nil)))
      (pss_cons (ps_if (pt_cmpR op_eq (pe_ix ix_tup (pe_fld (pv 1) rfl) pe_int (fun _ _ => rfl)) (pe_gi T.i_PLAIN) (nomark _)) (pss_one (ps_raise rfl tk (pmk_exq q_Fault (h_Fault) (by exact (pa_cons pe_int (pa_cons (pe_fld (pv 2) rfl) pa_nil)))))) pss_nil)
      (pss_one (ps_ret pe_non))))), ?_⟩
  try dsimp only [cxOf]
  clear h_Fault h_pass_token h_read_field h_is_next po pX tk nd
  obtain ⟨⟨ar, f⟩, R, q, rfl, pre, S, RP⟩ := h
  dsimp only at RP pre
  have kE := RP.err
  have kO := RP.ok
  clear RP
  walk_at "rd"
  refine ⟨by show 1 ≤ sizeLine; decide, ?_⟩
  refine fun p hp_ => ?_
  generalize hH_ : upd _ p _ = H1
  have s1 := new_same hH_ hp_
  have hp1 := new_at hH_ lit_counter
  clear hH_ hp_
  have S1 := S.same s1
  refine ⟨R, q, p, _, rfl, S1, .inr (SqT.of hp1), fun z => (kE _ (bad_fill (by omega))).bt (.same s1), fun hk H2 s2 => ?_⟩
  have S2 := S1.same s2
  have s02 : Same H H2 := fun b o y => s2 _ _ (s1 _ _ y)
  clear s1 s2 hp1
  walk_at "rd"
  refine iteB (fun c => ?_) fun c => ?_
  · have c' : isWord (Stt R.b q) "counterchanged" = false := word_false (of_decide_eq_false (ndt c))
    walk_at "rd"
    refine ⟨(), R, q, rfl, trivial, S2, ⟨fun e he => (kE e ?_).bt (.same s02), fun g q' he v H3 b3 S3 is => kO (.solid g) q' ?_ v H3 ((Bt.same s02).trans b3) S3 ⟨IsField.up (dn_back (.same s02) S2.ob) is.1, is.2⟩⟩⟩
    · simp only [ShBlazon.fillAt, c', he]
      rfl
    · simp only [ShBlazon.fillAt, c', he]
      rfl
  · have hw := of_decide_eq_true (ndf c)
    have c' : isWord (Stt R.b q) "counterchanged" = true := word_iff.mpr hw
    walk_at "rd"
    refine ⟨R, q, rfl, S2, by have := hw.1; omega, fun x dx q1 H3 hd hq b3 S3 nx hx => ?_⟩
    have B3 := (Bt.same s02).trans b3
    obtain ⟨dxa, ff, l, ha, hf⟩ := pre.rd S B3
    walk_at "rd"
    cases f with
    | plain t =>
      refine ⟨_, _, _, _, rfl, rfl, SqT.of hf, rfl, ?_⟩
      walk_at "rd"
      refine raise2 fun a H' sa _ had => kE (6, place (Stt R.b q)) ?_ a H' (B3.trans (.same sa)) ?_
      · simp only [ShBlazon.fillAt, c', if_true]
        rfl
      · rw [had]
        rfl
    | parted d l2 a b =>
      refine ⟨_, _, _, _, rfl, rfl, SqT.of hf, rfl, ?_⟩
      walk_at "rd"
      refine kO .counter q1 ?_ _ H3 B3 S3 ⟨rfl, rfl⟩
      simp only [ShBlazon.fillAt, c', if_true, hd]
      rfl
    | varied d n l2 a b =>
      refine ⟨_, _, _, _, rfl, rfl, SqT.of hf, rfl, ?_⟩
      walk_at "rd"
      refine kO .counter q1 ?_ _ H3 B3 S3 ⟨rfl, rfl⟩
      simp only [ShBlazon.fillAt, c', if_true, hd]
      rfl
theorem mans_len {v : Nat} {w : List UInt8} (h : MANS7[v]? = some w) : v ≤ 6 ∧ w.length ≤ 100 := by
  have h1 : v < 7 := (List.getElem?_eq_some_iff.mp h).1
  have z : ∀ v : Fin 7, (MANS7.getD v.val []).length ≤ 100 := by decide +kernel
  have y := z ⟨v, h1⟩
  dsimp only at y
  rw [List.getD_eq_getElem?_getD, h] at y
  exact ⟨Nat.le_of_lt_succ h1, y⟩
abbrev spMannerR (K : PySem.W.Frag) : Sp := spRg (ι := Unit) K (fun _ => []) (fun _ _ _ _ => True) (fun _ => manE) (fun _ _ _ v n => v = .int ((n : Nat) : Int) ∧ n ≤ 6)
theorem ok_read_manner (T : Txt w K mg) (u_is_next : Cal P w K mg base (L2.CX P w) 5 "is_next" p_is_next (spNext K)) (u_pass_token : Cal P w K mg base (L2.CX P w) 5 "pass_token" p_pass_token (spPass K)) (u_take : Cal P w K mg base (L2.CX P w) 6 "take" p_take (spTake K)) (u_with_sinister : Cal P w K mg base (L2.CX P w) 6 "with_sinister" p_with_sinister (spSin K)) : Cal P w K mg base (L2.CX P w) 7 "read_manner" p_read_manner (spMannerR K) := by
  refine T.d_read_manner.cal sc_read_manner (fun vs H Q E h => by obtain ⟨_, _, _, rfl, _⟩ := h; rfl) ?_
  intro cdv A outer s0 H vs Q E hr h
  have nd := sc_read_manner.nd
  have tk := tkX (P := P) (w := w) (K := K) (mg := mg) (base := base) (N := n_read_manner) (q := "read_manner") (sc := defScope s_read_manner) (f := He.ga K "read_manner") (cdv := cdv) (A := A) (outer := outer) (s := s0) (H := H) (E := E)
  have pX := paX (P := P) (w := w) (K := K) (mg := mg) (base := base) (N := n_read_manner) (q := "read_manner") (sc := defScope s_read_manner) (f := He.ga K "read_manner") (cdv := cdv) (A := A) (outer := outer) (s := s0) (H := H) (E := E)
  have po := poX (CX := L2.CX P w) (P := P) (w := w) (K := K) (mg := mg) (base := base) (N := n_read_manner) (q := "read_manner") (sc := defScope s_read_manner) (f := He.ga K "read_manner") (cdv := cdv) (A := A) (outer := outer) (s := s0) (H := H) (E := E)
  have h_is_next : Room (5) _ := hr.mono (by omega)
  have h_pass_token : Room (5) _ := hr.mono (by omega)
  have h_take : Room (6) _ := hr.mono (by omega)
  have h_with_sinister : Room (6) _ := hr.mono (by omega)
  refine ⟨_, (pss_cons (ps_if (pt_not (pt_val (pe_cal u_is_next (h_is_next) pX (pa_cons (pv 0) (pa_cons (pe_tup (pa_cons pe_str pa_nil)) pa_nil))))) (pss_one (ps_ret pe_int)) pss_nil)
      (pss_cons (ps_expr (pe_cal u_pass_token (h_pass_token) pX (pa_cons (pv 0) pa_nil)))
      (pss_one (ps_ret (pe_bm PySem.F.plainAttrs_tuple PySem.F.slot_tuple_index PySem.F.type_tuple_index mt_tup_index (pe_gr T.g_MANNERS) (pa_cons (pe_cal u_with_sinister (h_with_sinister) pX (pa_cons (pv 0) (pa_cons (pe_fld (pe_cal u_take (h_take) pX (pa_cons (pv 0) (pa_cons (pe_slice sl_tupA (pe_gr T.g_MANNERS) (po_some pe_int) po_none) pa_nil))) rfl) pa_nil))) pa_nil)))))), ?_⟩
  try dsimp only [cxOf]
  clear h_with_sinister h_take h_pass_token h_is_next po pX tk nd
  obtain ⟨_, R, q, rfl, _, S, RP⟩ := h
  dsimp only at RP
  have kE := RP.err
  have kO := RP.ok
  clear RP
  walk_at "rd"
  refine ⟨by show 1 ≤ sizeLine; decide, ?_⟩
  refine fun p hp_ => ?_
  generalize hH_ : upd _ p _ = H1
  have s1 := new_same hH_ hp_
  have hp1 := new_at hH_ lit_in
  clear hH_ hp_
  have S1 := S.same s1
  refine ⟨R, q, p, _, rfl, S1, .inr (SqT.of hp1), fun z => (kE _ (by unfold manE; rw [if_pos z])).bt (.same s1), fun hk H2 s2 => ?_⟩
  have S2 := S1.same s2
  have s02 : Same H H2 := fun b o y => s2 _ _ (s1 _ _ y)
  clear s1 s2 hp1
  have nk : ¬ 4 ≤ kindOf (Stt R.b q) := by omega
  walk_at "rd"
  refine iteB (fun c => ?_) fun c => ?_
  · have c' : isWord (Stt R.b q) "in" = false := word_false (of_decide_eq_false (ndt c))
    walk_at "rd"
    refine kO 0 q ?_ _ H2 (.same s02) S2 ⟨rfl, by decide⟩
    simp only [manE, if_neg nk, c']
    rfl
  · have hw := of_decide_eq_true (ndf c)
    have c' : isWord (Stt R.b q) "in" = true := word_iff.mpr hw
    walk_at "rd"
    refine ⟨R, q, rfl, S2, by have := hw.1; omega, fun x dx q1 H3 hd hq b3 S3 nx hx => ?_⟩
    have B3 := (Bt.same s02).trans b3
    walk_at "rd"
    refine ⟨T.y_MANNERS.ty, ?_⟩
    walk_at "rd"
    refine ⟨_, _, rfl, T.t_MANNERS _, fun z => absurd z.1 (by decide), fun _ => ?_⟩
    refine fun p4 hp_ => ?_
    generalize hH_ : upd _ p4 _ = H4
    have s4 := new_same hH_ hp_
    have hp4 := new_at hH_ (show cutV w_MANNERS (some 1) none = (MANS7.drop 1).map tv by decide +kernel)
    clear hH_ hp_
    have S4 := S3.same s4
    have B4 := B3.trans (.same s4)
    refine ⟨R, q1, p4, _, rfl, S4, .inr (SqT.of hp4), fun e he => (kE e ?_).bt B4, fun y q5 he y5 dx5 H5 b5 S5 ny hy => ?_⟩
    · simp only [manE, if_neg nk, c', if_true, hd, takeE_err tab_man (ok_stt S3.le) he]
    obtain ⟨k, e1, e2, e3, e4, e5, e6, e7, e8, e9⟩ := takeE_ok tab_man (ok_stt S3.le) he
    have eg : manE (Stt R.b q) = sinE 3 k (Stt R.b q5) := by simp only [manE, if_neg nk, c', if_true, hd, e1]
    rw [eg] at kE kO
    walk_at "rd"
    refine ⟨y.1, R, q5, rfl, (mans_len e4).2, S5, ⟨fun e he => (kE e (sin_err sin_man e4 he)).bt (B4.trans b5), fun u q6 he v6 H6 b6 S6 is => ?_⟩⟩
    obtain ⟨k2, f1, f2, f3⟩ := sin_ok sin_man e4 he
    obtain rfl : v6 = tv u := is
    refine ⟨_, _, _, _, rfl, rfl, tup_a (T.t_MANNERS _) t_manners, tup_b f2, tup_c f3, ?_⟩
    exact kO k2 q6 f1 _ H6 ((B4.trans b5).trans b6) S6 ⟨rfl, (mans_len f2).1⟩
end
end Hc

namespace Hc
open PySem PySem.Spec PyProof.Rows L2
open Sh ShMarsh ShBlazon
set_option hygiene false
local macro_rules | `(tactic| walk_at "hp") => `(tactic| first | assumption | exact Src.ob (by assumption) | exact Rdr.ob (by assumption) | exact upd_same)
local macro_rules | `(tactic| walk_at "sq") => `(tactic| first | assumption | exact Src.sq (by assumption) | exact Rdr.sq (by assumption) | exact SqL.of (by assumption) | exact SqL.of upd_same | exact SqT.of (by assumption) | exact SqT.of upd_same)
local macro_rules | `(tactic| walk_at "cl") => `(tactic| with_reducible first | exact T.c_Bytes | exact T.c_Coat | exact T.c_Arms | exact T.c_Layer | exact T.c_Token | exact T.c_Reader | exact T.c_Words)
local macro_rules | `(tactic| walk_at "na") => `(tactic| with_reducible first | exact T.n_Bytes_some | exact T.n_Bytes_at | exact T.n_Coat_kind | exact T.n_Coat_arms | exact T.n_Coat_canton | exact T.n_Coat_marks | exact T.n_Coat_coats | exact T.n_Arms_field | exact T.n_Arms_layers | exact T.n_Layer_kind | exact T.n_Layer_numbers | exact T.n_Layer_fill | exact T.n_Token_kind | exact T.n_Token_value | exact T.n_Token_place | exact T.n_Token_behind | exact T.n_Reader_some | exact T.n_Reader_at | exact T.n_Reader_end | exact T.n_Words_some | exact T.n_Words_at)
local macro_rules | `(tactic| walk_at "ai") => `(tactic| first | assumption | exact atI_nat (by assumption) | rfl)
local macro_rules | `(tactic| walk_at "rd1") => `(tactic| first
  | refine ⟨_, rfl, ?_⟩
  | refine ⟨rfl, ?_⟩
  | refine ⟨_, _, rfl, rfl, ?_⟩
  | refine ⟨_, _, _, _, _, rfl, (by walk_at "hp"), (by walk_at "cl"), (by walk_at "na"), (by rfl), ?_⟩
  | refine ⟨_, _, _, _, rfl, (by walk_at "hp"), (by walk_at "cl"), (by walk_at "na"), Nat.le_of_ble_eq_true rfl, ?_⟩
  | refine ⟨_, _, _, _, rfl, rfl, (by walk_at "sq"), (by walk_at "ai"), ?_⟩
  | refine ⟨_, _, rfl, (by first | exact Or.inl (by walk_at "sq") | exact Or.inr (by walk_at "sq")), ?_⟩
  | refine ⟨(by walk_at "ar"), ?_⟩)
local macro_rules | `(tactic| walk_at "ar") => `(tactic| first | exact (show CDiv _ _ from ⟨by decide, by decide⟩) | exact (show (0 : Int) < _ from by decide) | exact (show CMul _ _ from .inl ⟨by omega, by omega⟩) | exact (show CMul _ _ from .inr ⟨by omega, by omega⟩))
local macro_rules | `(tactic| walk_at "rd") => `(tactic| repeat walk_at "rd1")
local macro_rules | `(tactic| walk_at "fa") => `(tactic| first | exact ⟨_, rfl, (by omega), rfl⟩ | exact ⟨_, _, rfl, (by omega), rfl⟩ | exact ⟨_, _, _, rfl, (by omega), rfl⟩ | exact ⟨_, _, _, _, rfl, (by omega), rfl⟩ | exact ⟨_, _, _, _, _, rfl, (by omega), rfl⟩)
local macro_rules | `(tactic| walk_at "vr") => `(tactic| first
  | exact v_var (by rfl)
  | exact v_c
  | (apply v_i0 <;> walk_at "vr")
  | (apply v_i <;> first | walk_at "ar" | walk_at "vr")
  | (apply v_neg <;> walk_at "vr")
  | (apply v_eq <;> walk_at "vr")
  | (apply v_eqB <;> walk_at "vr")
  | (apply v_ne <;> walk_at "vr")
  | (apply v_neB <;> walk_at "vr")
  | (apply v_chain (g := fun _ _ => _) (g' := fun _ _ => _) <;> walk_at "vr")
  | (apply v_and <;> walk_at "vr")
  | (apply v_or <;> walk_at "vr")
  | (apply v_not <;> walk_at "vr")
  | (apply v_ifI <;> walk_at "vr")
  | (apply v_ifB <;> walk_at "vr")
  | (apply v_call <;> first | walk_at "fa" | walk_at "vr")
  | (apply v_abs <;> walk_at "vr")
  | (apply v_min <;> walk_at "vr")
  | exact va_nil
  | (apply va_cons <;> walk_at "vr")
  | (apply a_test <;> walk_at "vr")
  | (apply a_B <;> walk_at "vr")
  | (apply a_and <;> walk_at "vr")
  | (apply a_or <;> walk_at "vr")
  | (apply a_not <;> walk_at "vr"))
local macro_rules | `(tactic| walk_at "rs") => `(tactic| first
  | (apply r_ret; walk_at "vr")
  | (apply r_set; walk_at "vr"; walk_at "rs")
  | (apply r_ifI; walk_at "vr"; intro _; walk_at "rs"; intro _; walk_at "rs")
  | (apply r_ifB; walk_at "vr"; intro _; walk_at "rs"; intro _; walk_at "rs"))

section
variable {P : Program} {w : World} {K : PySem.W.Frag} {mg : Str → Option Value} {base : Heap}
def artW (an : Bool) : List UInt8 := if an = true then ascii "an" else ascii "a"
theorem art_eq (an : Bool) : decide (tv (artW an) = V.str (Str.ofString "an")) = an := by
  cases an with
  | true => decide +kernel
  | false => decide +kernel
theorem vowel_at (c : UInt8) (r : List UInt8) : decide (c.toNat ∈ (Str.ofString "aeiou").cps.toList) = vowel (c :: r) := by
  have z : ∀ n : Fin 256, decide ((UInt8.ofNat n.val).toNat ∈ (Str.ofString "aeiou").cps.toList) = (ascii "aeiou").contains (UInt8.ofNat n.val) := by decide +kernel
  have y := z ⟨c.toNat, c.toNat_lt⟩
  simp only [UInt8.ofNat_toNat] at y
  rw [y]
  rfl
/-- the promise of look_at_article -/
def spArt (K : PySem.W.Frag) : Sp := fun vs H Q E => ∃ (x dx : Addr) (an : Bool) (pl e : Nat) (wd : List UInt8), vs = [.ref x, tv wd] ∧ H x = some (.ins (He.ga K "Token") dx (tokF 0 (tv (artW an)) pl e)) ∧ wd ≠ [] ∧ wd.length ≤ 5000 ∧
  (vowel wd ≠ an → ∀ (d : Addr) H', Same H H' → H' d = some (.xd [("place", .int ((pl : Nat) : Int)), ("kind", .int 7)]) → E (.ref (He.ga K "Fault")) (some d) H') ∧ (vowel wd = an → ∀ H', Same H H' → Q .non H')
theorem ok_look_at_article (T : Txt w K mg) (q_Fault : Exq P w K mg base 1 "Fault" p_Fault_init (spErr2 K "Fault")) : Cal P w K mg base (L2.CX P w) 3 "look_at_article" p_look_at_article (spArt K) := by
  refine T.d_look_at_article.cal sc_look_at_article (fun vs H Q E h => by obtain ⟨_, _, _, _, _, _, rfl, _⟩ := h; rfl) ?_
  intro cdv A outer s0 H vs Q E hr h
  have nd := sc_look_at_article.nd
  have tk := tkX (P := P) (w := w) (K := K) (mg := mg) (base := base) (N := n_look_at_article) (q := "look_at_article") (sc := defScope s_look_at_article) (f := He.ga K "look_at_article") (cdv := cdv) (A := A) (outer := outer) (s := s0) (H := H) (E := E)
  have pX := paX (P := P) (w := w) (K := K) (mg := mg) (base := base) (N := n_look_at_article) (q := "look_at_article") (sc := defScope s_look_at_article) (f := He.ga K "look_at_article") (cdv := cdv) (A := A) (outer := outer) (s := s0) (H := H) (E := E)
  have po := poX (CX := L2.CX P w) (P := P) (w := w) (K := K) (mg := mg) (base := base) (N := n_look_at_article) (q := "look_at_article") (sc := defScope s_look_at_article) (f := He.ga K "look_at_article") (cdv := cdv) (A := A) (outer := outer) (s := s0) (H := H) (E := E)
  have h_Fault : Room (2) _ := hr.mono (by omega)
  refine ⟨_, (pss_one (ps_if (pt_cmpR op_ne (pe_cmpR op_eq (pe_fld (pv 0) rfl) pe_str (nomark _)) (pe_cmpR op_in_sign (pe_ix ix_str (pv 1) pe_int (fun _ _ => rfl)) (pe_gs T.z_VOWELS) rfl) (nomark _)) (pss_one (ps_raise rfl tk (pmk_exq q_Fault (h_Fault) (by exact (pa_cons pe_int (pa_cons (pe_fld (pv 0) rfl) pa_nil)))))) pss_nil)), ?_⟩
  try dsimp only [cxOf]
  clear h_Fault po pX tk nd
  obtain ⟨x, dx, an, pl, e, wd, rfl, hx, hne, hl, kE, kQ⟩ := h
  cases wd with
  | nil => exact absurd rfl hne
  | cons c r =>
    walk_at "rd"
    refine ⟨_, _, c.toNat, rfl, rfl, ?_, ?_, ?_⟩
    · rw [tx_len]
      exact Nat.le_trans hl (by decide)
    · show atI (((c :: r).map UInt8.toNat).toArray.toList) ((0 : Nat) : Int) = _
      exact atI_nat (by simp)
    refine ⟨c.toNat, _, rfl, rfl, rfl, _, rfl, ?_⟩
    rw [vowel_at c r, art_eq]
    have e2 : (!decide (V.bl an = V.bl (vowel (c :: r)))) = (an != vowel (c :: r)) := by cases an <;> cases vowel (c :: r) <;> rfl
    rw [e2]
    refine iteB (fun c1 => ?_) fun c1 => ?_
    · walk_at "rd"
      refine raise2 fun a H' sa _ ha => kE (fun z => ?_) a H' sa ha
      rw [z] at c1
      simp at c1
    · exact kQ (by cases an <;> cases q : vowel (c :: r) <;> rw [q] at c1 <;> first | rfl | cases c1) H (Same.refl H)
def spSeveral (K : PySem.W.Frag) : Sp := fun vs H Q _ => vs = [] ∧ ∀ D H', Same H H' → H' D = some (.lst (SEVERAL.map tv)) → Q (.ref D) H'
theorem several_tx {c : Nat} (h : c < 16) : tx (CHARGEWORDS.getD c []) ++ Str.ofString "s" = tx (SEVERAL.getD c []) ∧ (tx (CHARGEWORDS.getD c [])).length ≤ 100 := by
  have z : ∀ c : Fin 16, tx (CHARGEWORDS.getD c.val []) ++ Str.ofString "s" = tx (SEVERAL.getD c.val []) ∧ (tx (CHARGEWORDS.getD c.val [])).length ≤ 100 := by decide +kernel
  exact z ⟨c, h⟩
theorem ok_several_names (T : Txt w K mg)  : Cal P w K mg base CX0 1 "several_names" p_several_names (spSeveral K) := by
  refine T.d_several_names.cal sc_several_names (fun vs H Q E h => by obtain ⟨rfl, _⟩ := h; rfl) ?_
  intro cdv A outer s0 H vs Q E hr h
  have nd := sc_several_names.nd
  have po := poX (CX := CX0) (P := P) (w := w) (K := K) (mg := mg) (base := base) (N := n_several_names) (q := "several_names") (sc := defScope s_several_names) (f := He.ga K "several_names") (cdv := cdv) (A := A) (outer := outer) (s := s0) (H := H) (E := E)
  refine ⟨_, (pss_one (ps_ret (pe_lc (own := [("name", 0)]) (g := gName 0) (tt := tYes) rfl nd (pi_tup (pe_gr T.g_CHARGES)) (blkOk_by (own := [("name", 0)]) (N := n_several_names) (sc := defScope s_several_names) (by decide +kernel)) (fun _ _ _ _ _ => pg_name (i := 0) nd rfl (Or.inl rfl)) (fun _ _ _ _ _ => pts_nil) (fun _ _ _ _ _ => (pe_op op_add_str (pv 0) (pe_gs T.z_SEVERAL)))))), ?_⟩
  try dsimp only [cxOf]
  clear po nd
  obtain ⟨rfl, k⟩ := h
  refine ⟨_, rfl, ⟨_, T.t_CHARGES _⟩, fun D nD => lc_it walk_tup (fun i H' => Same H H' ∧ H' D = some (.lst ((SEVERAL.take i).map tv))) ⟨Hc.Same.new (Same.refl H) nD, upd_same⟩ (fun i H' _ p => T.t_CHARGES _) ?_ ?_⟩
  · rintro i x H1 H' hi ⟨sa, hD⟩ ⟨rfl, hxi⟩
    have hi' : i < 16 := hi
    rw [t_charges, List.getElem?_map] at hxi
    cases e : CHARGEWORDS[i]? with
    | none => rw [e] at hxi; cases hxi
    | some u =>
      rw [e] at hxi
      injection hxi with hxi
      subst hxi
      have eu : CHARGEWORDS.getD i [] = u := by rw [List.getD_eq_getElem?_getD, e]; rfl
      have hs := several_tx hi'
      rw [eu] at hs
      refine ⟨rfl, ?_⟩
      refine ⟨_, rfl, _, _, rfl, rfl, Nat.le_trans (Nat.add_le_add hs.2 (show (Str.ofString "s").length ≤ 1 by decide +kernel)) (by decide), ?_⟩
      rw [hs.1]
      have hi3 : i < SEVERAL.length := hi'
      refine ⟨_, hD, ?_, ?_, ?_⟩
      · rw [List.length_map, List.length_take]
        exact Nat.lt_of_le_of_lt (Nat.le_trans (Nat.min_le_left ..) (Nat.le_of_lt hi')) (by decide)
      · intro b o z
        rw [upd_ne (ne_of_none z nD)]
        exact sa _ _ z
      · rw [upd_same, List.take_add_one, List.getElem?_eq_getElem hi3, List.map_append, List.getD_eq_getElem?_getD, List.getElem?_eq_getElem hi3]
        rfl
  · rintro H' ⟨sa, hD⟩
    exact k D H' sa hD
end
end Hc

namespace Hc
open PySem PySem.Spec PyProof.Rows L2
open Sh ShMarsh ShBlazon
set_option hygiene false
local macro_rules | `(tactic| walk_at "hp") => `(tactic| first | assumption | exact Src.ob (by assumption) | exact Rdr.ob (by assumption) | exact upd_same)
local macro_rules | `(tactic| walk_at "sq") => `(tactic| first | assumption | exact Src.sq (by assumption) | exact Rdr.sq (by assumption) | exact SqL.of (by assumption) | exact SqL.of upd_same | exact SqT.of (by assumption) | exact SqT.of upd_same)
local macro_rules | `(tactic| walk_at "cl") => `(tactic| with_reducible first | exact T.c_Bytes | exact T.c_Coat | exact T.c_Arms | exact T.c_Layer | exact T.c_Token | exact T.c_Reader | exact T.c_Words)
local macro_rules | `(tactic| walk_at "na") => `(tactic| with_reducible first | exact T.n_Bytes_some | exact T.n_Bytes_at | exact T.n_Coat_kind | exact T.n_Coat_arms | exact T.n_Coat_canton | exact T.n_Coat_marks | exact T.n_Coat_coats | exact T.n_Arms_field | exact T.n_Arms_layers | exact T.n_Layer_kind | exact T.n_Layer_numbers | exact T.n_Layer_fill | exact T.n_Token_kind | exact T.n_Token_value | exact T.n_Token_place | exact T.n_Token_behind | exact T.n_Reader_some | exact T.n_Reader_at | exact T.n_Reader_end | exact T.n_Words_some | exact T.n_Words_at)
local macro_rules | `(tactic| walk_at "ai") => `(tactic| first | assumption | exact atI_nat (by assumption) | rfl)
local macro_rules | `(tactic| walk_at "rd1") => `(tactic| first
  | refine ⟨_, rfl, ?_⟩
  | refine ⟨rfl, ?_⟩
  | refine ⟨_, _, rfl, rfl, ?_⟩
  | refine ⟨_, _, _, _, _, rfl, (by walk_at "hp"), (by walk_at "cl"), (by walk_at "na"), (by rfl), ?_⟩
  | refine ⟨_, _, _, _, rfl, (by walk_at "hp"), (by walk_at "cl"), (by walk_at "na"), Nat.le_of_ble_eq_true rfl, ?_⟩
  | refine ⟨_, _, _, _, rfl, rfl, (by walk_at "sq"), (by walk_at "ai"), ?_⟩
  | refine ⟨_, _, rfl, (by first | exact Or.inl (by walk_at "sq") | exact Or.inr (by walk_at "sq")), ?_⟩
  | refine ⟨(by walk_at "ar"), ?_⟩)
local macro_rules | `(tactic| walk_at "ar") => `(tactic| first | exact (show CDiv _ _ from ⟨by decide, by decide⟩) | exact (show (0 : Int) < _ from by decide) | exact (show CMul _ _ from .inl ⟨by omega, by omega⟩) | exact (show CMul _ _ from .inr ⟨by omega, by omega⟩))
local macro_rules | `(tactic| walk_at "rd") => `(tactic| repeat walk_at "rd1")
local macro_rules | `(tactic| walk_at "fa") => `(tactic| first | exact ⟨_, rfl, (by omega), rfl⟩ | exact ⟨_, _, rfl, (by omega), rfl⟩ | exact ⟨_, _, _, rfl, (by omega), rfl⟩ | exact ⟨_, _, _, _, rfl, (by omega), rfl⟩ | exact ⟨_, _, _, _, _, rfl, (by omega), rfl⟩)
local macro_rules | `(tactic| walk_at "vr") => `(tactic| first
  | exact v_var (by rfl)
  | exact v_c
  | (apply v_i0 <;> walk_at "vr")
  | (apply v_i <;> first | walk_at "ar" | walk_at "vr")
  | (apply v_neg <;> walk_at "vr")
  | (apply v_eq <;> walk_at "vr")
  | (apply v_eqB <;> walk_at "vr")
  | (apply v_ne <;> walk_at "vr")
  | (apply v_neB <;> walk_at "vr")
  | (apply v_chain (g := fun _ _ => _) (g' := fun _ _ => _) <;> walk_at "vr")
  | (apply v_and <;> walk_at "vr")
  | (apply v_or <;> walk_at "vr")
  | (apply v_not <;> walk_at "vr")
  | (apply v_ifI <;> walk_at "vr")
  | (apply v_ifB <;> walk_at "vr")
  | (apply v_call <;> first | walk_at "fa" | walk_at "vr")
  | (apply v_abs <;> walk_at "vr")
  | (apply v_min <;> walk_at "vr")
  | exact va_nil
  | (apply va_cons <;> walk_at "vr")
  | (apply a_test <;> walk_at "vr")
  | (apply a_B <;> walk_at "vr")
  | (apply a_and <;> walk_at "vr")
  | (apply a_or <;> walk_at "vr")
  | (apply a_not <;> walk_at "vr"))
local macro_rules | `(tactic| walk_at "rs") => `(tactic| first
  | (apply r_ret; walk_at "vr")
  | (apply r_set; walk_at "vr"; walk_at "rs")
  | (apply r_ifI; walk_at "vr"; intro _; walk_at "rs"; intro _; walk_at "rs")
  | (apply r_ifB; walk_at "vr"; intro _; walk_at "rs"; intro _; walk_at "rs"))

section
variable {P : Program} {w : World} {K : PySem.W.Frag} {mg : Str → Option Value} {base : Heap}
theorem manE_or {s : ShBlazon.St} {e : ShBlazon.Fault} (h : manE s = .error e) : mannerAt s = .error e ∨ ∃ m, mannerAt s = .ok m ∧ ∀ f, ShBlazon.fillAt f m.2 = .error e := by
  unfold manE at h
  by_cases c : 4 ≤ kindOf s
  · rw [if_pos c] at h
    cases h
    have c' : kindOf s ≠ 0 := by omega
    exact .inr ⟨_, bad_manner c', fun f => bad_fill c'⟩
  · rw [if_neg c] at h
    unfold mannerAt
    by_cases c2 : isWord s "in" = true
    · rw [if_pos c2] at h
      rw [if_pos c2]
      cases q : eat MANNERWORDS (s.drop 1) with
      | error e2 =>
        rw [q] at h
        dsimp only at h
        cases h
        exact .inl rfl
      | ok m =>
        rw [q] at h
        dsimp only at h
        obtain ⟨h1, h2, h3⟩ := sinE_err h
        refine .inr ⟨_, rfl, fun f => ?_⟩
        rw [h3, h2]
        exact bad_fill h1
    · rw [if_neg c2] at h
      cases h
theorem wordlen {b : List UInt8} {q : Nat} (hq : q ≤ b.length) (hk : kindOf (Stt b q) = 0) : (wordOf (Stt b q)).length ≤ b.length := by
  rw [stt_kind hq] at hk
  rw [stt_word hq]
  obtain ⟨c, r, e1, e2, e3⟩ := one_word hk
  unfold tokP
  rw [e3]
  have := tw_len isLetter (b.drop (q + blanks b q))
  rw [List.length_drop] at this
  dsimp only
  omega
abbrev Art := Addr × Addr × Bool × Nat × Nat
structure GrI where
  ar : Addr
  f : Field
  n : Nat
  art : Option Art
def groupE (f : Field) (an : Bool) (pl : Nat) (s : ShBlazon.St) : Except ShBlazon.Fault (Layer × ShBlazon.St) :=
  if kindOf s = 0 ∧ wordOf s ∈ CHARGEWORDS ++ SIZES3 then (if vowel (wordOf s) ≠ an then .error (7, pl) else groupAt f 1 CHARGEWORDS s) else .error (wanted s)
def grG (i : GrI) : ShBlazon.St → Except ShBlazon.Fault (Layer × ShBlazon.St) := match i.art with
  | none => groupAt i.f i.n SEVERAL
  | some a => groupE i.f a.2.2.1 a.2.2.2.1
def grA (i : GrI) : V := match i.art with
  | none => .non
  | some a => .ref a.1
def grPre (K : PySem.W.Frag) (i : GrI) (R : Rs) (H : Hp) : Prop := armsPre K (i.ar, i.f) H ∧ (match i.art with
  | none => 2 ≤ i.n ∧ i.n ≤ 10
  | some a => i.n = 1 ∧ H a.1 = some (.ins (He.ga K "Token") a.2.1 (tokF 0 (tv (artW a.2.2.1)) (R.o + a.2.2.2.1) a.2.2.2.2)))
def LayR (K : PySem.W.Frag) (f : Field) : Hp → V → Layer → Prop := fun D v l => IsLayer K D v l ∧ WfLayer f l
abbrev spGroupR (K : PySem.W.Frag) : Sp := spRg (ι := GrI) K (fun i => [.ref i.ar, .int (i.n : Int), grA i]) (fun i R _ H => grPre K i R H) grG (fun i _ => LayR K i.f)
def namesOf (n : Nat) : List (List UInt8) := if n = 1 then CHARGEWORDS else SEVERAL
theorem tab_names (n : Nat) : Tab (namesOf n) (namesOf n) (namesOf n) := by
  unfold namesOf
  split
  · exact tab_charge
  · exact tab_several
theorem names_16 (n : Nat) : (namesOf n).length = 16 := by
  unfold namesOf
  split <;> rfl
theorem group_bad {s : ShBlazon.St} {f : Field} {n m : Nat} (ok : OkS s) (h : ¬ (kindOf s = 0 ∧ wordOf s ∈ namesOf n ++ SIZES3)) : groupAt f m (namesOf n) s = .error (wanted s) := by
  have n1 : sizeAt s = (3, s) := by
    unfold sizeAt
    rw [tab_no tab_size ok fun z => h ⟨z.1, List.mem_append.mpr (.inr z.2)⟩]
  have n2 : eat (namesOf n) s = .error (wanted s) := by
    unfold eat
    rw [tab_no (tab_names n) ok fun z => h ⟨z.1, List.mem_append.mpr (.inl z.2)⟩]
  unfold groupAt
  rw [n1]
  dsimp only
  rw [n2]
theorem size_rng : ∀ w ∈ SIZES3, ∀ k : Fin 5, SIZES5[k.val]? = some w → 1 ≤ k.val := by decide +kernel
theorem lit_sizes : [V.str (Str.ofString "small"), V.str (Str.ofString "lesser"), V.str (Str.ofString "great")] = SIZES3.map tv := by decide +kernel
theorem list_ix {L : List (List UInt8)} {k : Nat} {u : List UInt8} (h2 : ∀ m, m < k → L[m]? ≠ some u) : ∀ (m : Nat) (z' : V), m < k → (L.map tv)[m]? = some z' → eqV z' (tv u) = false := fun m z' hm e => by
  rw [List.getElem?_map] at e
  cases y : L[m]? with
  | none => rw [y] at e; cases e
  | some x =>
    rw [y] at e
    injection e with e
    rw [← e, eq_tv]
    exact decide_eq_false fun z => h2 m hm (by rw [y, z])
theorem lst_at {H H1 : Hp} {p : Addr} {vs : List V} (h : upd H p (.lst vs) = H1) : H1 p = some (.lst vs) := by rw [← h, upd_same]
theorem ords_len {v : Nat} {w : List UInt8} (h : ORDS13[v]? = some w) : v ≤ 12 ∧ w.length ≤ 100 := by
  have h1 : v < 13 := (List.getElem?_eq_some_iff.mp h).1
  have z : ∀ v : Fin 13, (ORDS13.getD v.val []).length ≤ 100 := by decide +kernel
  have y := z ⟨v, h1⟩
  dsimp only at y
  rw [List.getD_eq_getElem?_getD, h] at y
  exact ⟨Nat.le_of_lt_succ h1, y⟩
def ordG (f : Field) (s : ShBlazon.St) : Except ShBlazon.Fault (Layer × ShBlazon.St) := match look ORDWORDS s with
  | some o => ordAt f o (s.drop 1)
  | none => .error (wanted s)
abbrev spOrdR (K : PySem.W.Frag) : Sp := spRg (ι := Addr × Field) K (fun i => [.ref i.1]) (fun i R q H => armsPre K i H ∧ kindOf (Stt R.b q) = 0 ∧ wordOf (Stt R.b q) ∈ ORDS13) (fun i => ordG i.2) (fun i _ => LayR K i.2)
theorem ok_read_group (T : Txt w K mg) (u_several_names : Cal P w K mg base CX0 1 "several_names" p_several_names (spSeveral K)) (u_is_next : Cal P w K mg base (L2.CX P w) 5 "is_next" p_is_next (spNext K)) (u_want : Cal P w K mg base (L2.CX P w) 5 "want" p_want (spWant K)) (u_ahead : Cal P w K mg base (L2.CX P w) 4 "ahead" p_ahead (spAhead K)) (u_look_at_article : Cal P w K mg base (L2.CX P w) 3 "look_at_article" p_look_at_article (spArt K)) (u_pass_token : Cal P w K mg base (L2.CX P w) 5 "pass_token" p_pass_token (spPass K)) (u_take : Cal P w K mg base (L2.CX P w) 6 "take" p_take (spTake K)) (u_read_manner : Cal P w K mg base (L2.CX P w) 7 "read_manner" p_read_manner (spMannerR K)) (u_read_fill : Cal P w K mg base (L2.CX P w) 10 "read_fill" p_read_fill (spFillR K)) (m_Layer : Mak P w K mg base 1 "Layer" p_Layer_init (spI_Layer K)) : Cal P w K mg base (L2.CX P w) 11 "read_group" p_read_group (spGroupR K) := by
  refine T.d_read_group.cal sc_read_group (fun vs H Q E h => by obtain ⟨_, _, _, rfl, _⟩ := h; rfl) ?_
  intro cdv A outer s0 H vs Q E hr h
  have nd := sc_read_group.nd
  have tk := tkX (P := P) (w := w) (K := K) (mg := mg) (base := base) (N := n_read_group) (q := "read_group") (sc := defScope s_read_group) (f := He.ga K "read_group") (cdv := cdv) (A := A) (outer := outer) (s := s0) (H := H) (E := E)
  have pX := paX (P := P) (w := w) (K := K) (mg := mg) (base := base) (N := n_read_group) (q := "read_group") (sc := defScope s_read_group) (f := He.ga K "read_group") (cdv := cdv) (A := A) (outer := outer) (s := s0) (H := H) (E := E)
  have po := poX (CX := L2.CX P w) (P := P) (w := w) (K := K) (mg := mg) (base := base) (N := n_read_group) (q := "read_group") (sc := defScope s_read_group) (f := He.ga K "read_group") (cdv := cdv) (A := A) (outer := outer) (s := s0) (H := H) (E := E)
  have h_several_names : Room (1) _ := hr.mono (by omega)
  have h_is_next : Room (5) _ := hr.mono (by omega)
  have h_want : Room (5) _ := hr.mono (by omega)
  have h_ahead : Room (4) _ := hr.mono (by omega)
  have h_look_at_article : Room (3) _ := hr.mono (by omega)
  have h_pass_token : Room (5) _ := hr.mono (by omega)
  have h_take : Room (6) _ := hr.mono (by omega)
  have h_read_manner : Room (7) _ := hr.mono (by omega)
  have h_read_fill : Room (10) _ := hr.mono (by omega)
  have h_Layer : Room (2) _ := hr.mono (by omega)
  refine ⟨_, (Evl.pss_cut (ps_set (i := 4) nd rfl (Or.inl rfl) (pe_ifExp (pt_cmpR op_eq (pv 2) pe_int (nomark _)) (pe_callTy call_list_of (by rfl) T.f_list (by decide +kernel) (pa_cons (pe_gr T.g_CHARGES) pa_nil)) (pe_cal0 u_several_names (h_several_names) (p0X (E := E0)))))
      (pss_cons (ps_expr (pe_cal u_want (h_want) pX (pa_cons (pv 0) (pa_cons (pe_cal u_is_next (h_is_next) pX (pa_cons (pv 0) (pa_cons (pe_op op_cat (pv 4) (pe_lst (pa_cons pe_str (pa_cons pe_str (pa_cons pe_str pa_nil))))) pa_nil))) pa_nil))))
      (Evl.pss_cut (ps_if (pt_cmp (pc_notN (pv 3))) (pss_one (ps_expr (pe_cal u_look_at_article (h_look_at_article) pX (pa_cons (pv 3) (pa_cons (pe_fld (pe_cal u_ahead (h_ahead) pX (pa_cons (pv 0) pa_nil)) rfl) pa_nil))))) pss_nil)
      (pss_cons (ps_set (i := 5) nd rfl (Or.inl rfl) pe_int)
      (Evl.pss_cut (ps_if (pt_val (pe_cal u_is_next (h_is_next) pX (pa_cons (pv 0) (pa_cons (pe_tup (pa_cons pe_str (pa_cons pe_str (pa_cons pe_str pa_nil)))) pa_nil)))) (pss_one (ps_set (i := 5) nd rfl (Or.inl rfl) (pe_bm PySem.F.plainAttrs_tuple PySem.F.slot_tuple_index PySem.F.type_tuple_index mt_tup_index (pe_gr T.g_SIZES) (pa_cons (pe_fld (pe_cal u_pass_token (h_pass_token) pX (pa_cons (pv 0) pa_nil)) rfl) pa_nil)))) pss_nil)
      (pss_cons (ps_set (i := 6) nd rfl (Or.inl rfl) (pe_bm PySem.F.plainAttrs_list PySem.F.slot_list_index PySem.F.type_list_index mt_index (pv 4) (pa_cons (pe_fld (pe_cal u_take (h_take) pX (pa_cons (pv 0) (pa_cons (pv 4) pa_nil))) rfl) pa_nil)))
      (pss_cons (ps_set (i := 7) nd rfl (Or.inl rfl) (pe_cal u_read_manner (h_read_manner) pX (pa_cons (pv 0) pa_nil)))
      (pss_one (ps_ret (pe_mak m_Layer (h_Layer) (pa_cons (pe_gi T.i_GROUP) (pa_cons (pe_lst (pa_cons (pv 6) (pa_cons (pv 2) (pa_cons (pv 7) (pa_cons (pv 5) pa_nil))))) (pa_cons (pe_cal u_read_fill (h_read_fill) pX (pa_cons (pv 0) (pa_cons (pv 1) pa_nil))) pa_nil))))))))))))), ?_⟩
  try dsimp only [cxOf]
  clear h_Layer h_read_fill h_read_manner h_take h_pass_token h_look_at_article h_ahead h_want h_is_next h_several_names po pX tk nd
  obtain ⟨⟨ar, f, n, art⟩, R, q, rfl, pre, S, RP⟩ := h
  dsimp only at RP pre
  have kE := RP.err
  have kO := RP.ok
  clear RP
  obtain ⟨preA, preT⟩ := pre
  dsimp only at preA preT
  have ok := ok_stt S.le
  have hn : 1 ≤ n ∧ n ≤ 10 := by
    cases art with
    | none => exact ⟨by have := preT.1; omega, preT.2⟩
    | some a => have := preT.1; omega
  have fail : ¬ (kindOf (Stt R.b q) = 0 ∧ wordOf (Stt R.b q) ∈ namesOf n ++ SIZES3) → Fl K R H E (wanted (Stt R.b q)) := fun z => kE _ (by
    cases art with
    | none =>
      have z1 : namesOf n = SEVERAL := if_neg (show ¬ n = 1 by have := preT.1; omega)
      show groupAt f n SEVERAL _ = _
      rw [← z1]
      exact group_bad ok z
    | some a =>
      have z1 : n = 1 := preT.1
      subst z1
      show groupE f _ _ _ = _
      unfold groupE
      rw [if_neg]
      exact z)
  refine ⟨fun σ H1 => ∃ a4, σ = [some (.ref R.s), some (.ref ar), some (.int (n : Int)), some (grA ⟨ar, f, n, art⟩), some (.ref a4), none, none, none] ∧ Same H H1 ∧ H1 a4 = some (.lst ((namesOf n).map tv)), ?_, ?_⟩
  · walk_at "rd"
    refine iteB (fun c => ?_) fun c => ?_
    · have c' : n = 1 := by
        have z : V.int (n : Int) = V.int 1 := of_decide_eq_true c
        injection z with z
        omega
      refine ⟨_, _, rfl, .inr (T.t_CHARGES _), ?_⟩
      refine fun p hp_ => ?_
      generalize hH_ : upd _ p _ = H1
      have s1 := new_same hH_ hp_
      have hp1 := lst_at hH_
      clear hH_ hp_
      refine ⟨p, rfl, s1, ?_⟩
      rw [hp1, t_charges, c']
      rfl
    · have c' : ¬ n = 1 := fun z => of_decide_eq_false c (by rw [z]; rfl)
      refine ⟨rfl, fun D H1 s1 hD => ⟨D, rfl, s1, ?_⟩⟩
      rw [hD]
      unfold namesOf
      rw [if_neg c']
  rintro _ H1 ⟨a4, rfl, s1, h4⟩
  have S1 := S.same s1
  walk_at "rd"
  refine ⟨by show 3 ≤ sizeLine; decide, ?_⟩
  refine fun p2 hp_ => ?_
  generalize hH_ : upd _ p2 _ = H2
  have s2 := new_same hH_ hp_
  have hp2 := lst_at hH_
  clear hH_ hp_
  refine ⟨a4, p2, _, _, rfl, rfl, s2 _ _ h4, hp2, by rw [List.length_map, names_16]; decide, ?_⟩
  refine fun p3 hp_ => ?_
  generalize hH_ : upd _ p3 _ = H3
  have s3 := new_same hH_ hp_
  have hp3 := lst_at hH_
  clear hH_ hp_
  rw [lit_sizes, ← List.map_append] at hp3
  have s03 : Same H H3 := fun b o y => s3 _ _ (s2 _ _ (s1 _ _ y))
  have h43 := s3 _ _ (s2 _ _ h4)
  have S3 := S.same s03
  clear s2 s3 hp2 h4 S1
  walk_at "rd"
  refine ⟨R, q, p3, _, rfl, S3, .inl (SqL.of hp3), fun z => (fail (by omega)).bt (.same s03), fun hk H4 s4 => ?_⟩
  have S4 := S3.same s4
  have s04 : Same H H4 := fun b o y => s4 _ _ (s03 _ _ y)
  refine ⟨R, q, _, rfl, S4, fun z => (fail (of_decide_eq_false z)).bt (.same s04), fun z H5 s5 => ?_⟩
  have hw := of_decide_eq_true z
  have S5 := S4.same s5
  have s05 : Same H H5 := fun b o y => s5 _ _ (s04 _ _ y)
  have h45 := s5 _ _ (s4 _ _ h43)
  clear s4 s5 h43 hp3 s03 S3 S4 s04 s1
  refine ⟨fun σ H6 => σ = [some (.ref R.s), some (.ref ar), some (.int (n : Int)), some (grA ⟨ar, f, n, art⟩), some (.ref a4), none, none, none] ∧ Same H H6 ∧ H6 a4 = some (.lst ((namesOf n).map tv)) ∧ grG ⟨ar, f, n, art⟩ (Stt R.b q) = groupAt f n (namesOf n) (Stt R.b q), ?_, ?_⟩
  · cases art with
    | none =>
      have z1 : namesOf n = SEVERAL := if_neg (show ¬ n = 1 by have := preT.1; omega)
      walk_at "rd"
      refine ⟨s05, h45, ?_⟩
      rw [z1]
      rfl
    | some a =>
      obtain ⟨x, dx, an, pl, e⟩ := a
      have z1 : n = 1 := preT.1
      have hx : H x = some (.ins (He.ga K "Token") dx (tokF 0 (tv (artW an)) (R.o + pl) e)) := preT.2
      subst z1
      have hw1 := ok hw.1
      have eg : grG ⟨ar, f, 1, some (x, dx, an, pl, e)⟩ (Stt R.b q) = (if vowel (wordOf (Stt R.b q)) ≠ an then .error (7, pl) else groupAt f 1 CHARGEWORDS (Stt R.b q)) := by
        show groupE f an pl _ = _
        unfold groupE
        rw [if_pos]
        exact hw
      walk_at "rd"
      refine ⟨R, q, rfl, S5, fun z => absurd z (by have := hw.1; omega), fun _ y dy H6 s6 ny hy => ?_⟩
      have s06 : Same H H6 := fun b o y => s6 _ _ (s05 _ _ y)
      walk_at "rd"
      rw [tokV_0 hw.1]
      refine ⟨x, dx, an, _, e, _, rfl, s06 _ _ hx, hw1.1, ?_, fun z d H7 s7 hd => ?_, fun z H7 s7 => ?_⟩
      · have := wordlen S.le hw.1
        have := S.big
        have := S.fit
        omega
      · exact kE (7, pl) (by rw [eg, if_pos z]) d H7 (.same fun b o y => s7 _ _ (s06 _ _ y)) hd
      · refine ⟨rfl, fun b o y => s7 _ _ (s06 _ _ y), s7 _ _ (s6 _ _ h45), ?_⟩
        rw [eg, if_neg (fun y => y z)]
        rfl
  rintro _ H6 ⟨rfl, s06, h46, eg⟩
  rw [eg] at kE kO
  have S6 := S.same s06
  clear s05 h45 S5 fail eg hw hk
  walk_at "rd"
  refine ⟨fun σ H7 => ∃ (sz q2 : Nat), σ = [some (.ref R.s), some (.ref ar), some (.int (n : Int)), some (grA ⟨ar, f, n, art⟩), some (.ref a4), some (.int (sz : Int)), none, none] ∧ H7 a4 = some (.lst ((namesOf n).map tv)) ∧ Bt R.s H H7 ∧ Rdr K H7 R q2 ∧ sizeAt (Stt R.b q) = (sz, Stt R.b q2) ∧ 1 ≤ sz ∧ sz ≤ 4, ?_, ?_⟩
  · walk_at "rd"
    refine ⟨by show 3 ≤ sizeLine; decide, ?_⟩
    refine fun p7 hp_ => ?_
    generalize hH_ : upd _ p7 _ = H7
    have s7 := new_same hH_ hp_
    have hp7 := new_at hH_ lit_sizes
    clear hH_ hp_
    have S7 := S6.same s7
    have s07 : Same H H7 := fun b o y => s7 _ _ (s06 _ _ y)
    refine ⟨R, q, p7, _, rfl, S7, .inr (SqT.of hp7), fun z => (kE _ ?_).bt (.same s07), fun hk H8 s8 => ?_⟩
    · have z' : kindOf (Stt R.b q) ≠ 0 := by omega
      simp only [groupAt, bad_size z', bad_eat z']
    have S8 := S7.same s8
    have s08 : Same H H8 := fun b o y => s8 _ _ (s07 _ _ y)
    have h48 := s8 _ _ (s7 _ _ h46)
    walk_at "rd"
    refine iteB (fun c => ?_) fun c => ?_
    · have c' := of_decide_eq_true c
      obtain ⟨k, h1, h2, h3, h4⟩ := tab_yes tab_size ok c'
      have hk5 : k < 5 := h2
      have hk1 := size_rng _ c'.2 ⟨k, hk5⟩ h3
      refine ⟨T.y_SIZES.ty, _, rfl, R, q, rfl, S8, by have := c'.1; omega, fun x dx q1 H9 hd hq b9 S9 nx hx => ?_⟩
      have n4 : a4 ≠ R.s := ne_of h48 S8.ob (by intro z; cases z)
      have h49 := b9 _ _ n4 h48
      walk_at "rd"
      rw [tokV_0 c'.1]
      refine ⟨_, _, _, _, rfl, rfl, tup_a (T.t_SIZES _) t_sizes, tup_b h3, tup_c h4, ?_⟩
      refine ⟨k, q1, rfl, h49, (Bt.same s08).trans b9, S9, ?_, hk1, by omega⟩
      unfold sizeAt
      rw [h1, hd]
    · refine ⟨3, q, rfl, h48, .same s08, S8, ?_, by decide, by decide⟩
      unfold sizeAt
      rw [tab_no tab_size ok (of_decide_eq_false c)]
  clear h46 S6 s06
  rintro _ H7 ⟨sz, q2, rfl, h47, b7, S7, esz, z1, z4⟩
  have ok2 := ok_stt S7.le
  have n4 : a4 ≠ R.s := ne_of h47 S7.ob (by intro z; cases z)
  walk_at "rd"
  refine ⟨.inl ⟨rfl, _, SqL.of h47⟩, ?_⟩
  walk_at "rd"
  refine ⟨R, q2, a4, _, rfl, S7, .inl (SqL.of h47), fun e he => (kE e ?_).bt b7, fun y q3 he yy dy H8 b8 S8 ny hy => ?_⟩
  · simp only [groupAt, esz, takeE_err (tab_names n) ok2 he]
  obtain ⟨k, e1, e2, e3, e4, e5, e6, e7, e8, e9⟩ := takeE_ok (tab_names n) ok2 he
  have h48 := b8 _ _ n4 h47
  have B8 := b7.trans b8
  walk_at "rd"
  refine ⟨a4, _, _, k, tv y.1, rfl, rfl, SqL.of h48, rfl, flat_tv _, by rw [List.getElem?_map, e4]; rfl, by rw [eq_tv]; simp, list_ix e5, ?_⟩
  walk_at "rd"
  refine ⟨(), R, q3, rfl, trivial, S8, ⟨fun e he => (kE e ?_).bt B8, fun m q4 he v9 H9 b9 S9 is => ?_⟩⟩
  · rcases manE_or he with h | ⟨m, h1, h2⟩
    · simp only [groupAt, esz, e1, h]
    · simp only [groupAt, esz, e1, h1, h2]
  obtain ⟨rfl, hm6⟩ := is
  have em := manE_ok he
  have B9 := B8.trans b9
  walk_at "rd"
  refine ⟨by show 4 ≤ sizeLine; decide, ?_⟩
  refine fun p9 np9 => ?_
  generalize hHa : upd H9 p9 _ = Ha
  have sa := new_same hHa np9
  have hpa := lst_at hHa
  have n9 := B9.none S9.ob p9 np9
  clear hHa
  have Sa := S9.same sa
  have Ba := B9.trans (.same sa)
  have np : p9 ≠ R.s := ne_of hpa Sa.ob (by intro z; cases z)
  walk_at "rd"
  refine ⟨(ar, f), R, q4, rfl, armsPre.rd preA S Ba, Sa, ⟨fun e he => (kE e (by simp only [groupAt, esz, e1, em, he])).bt Ba, fun fl q5 he fv Hb bb Sb is => ?_⟩⟩
  have hpb := bb _ _ np hpa
  have Bb := Ba.trans bb
  refine mk_Layer fun x dx Hd nx sc hx => ?_
  refine kO (.group k n m sz fl) q5 (by simp only [groupAt, esz, e1, em, he]) _ _ (Bb.trans (.same sc)) (Sb.same sc) ⟨⟨x, dx, p9, fv, rfl, dn_of (Bb.none Sb.ob x nx) hx, dn_of n9 (sc _ _ hpb), ?_⟩, ?_, hn, hm6, ⟨z1, z4⟩, is.2⟩
  · exact IsFill.up (dn_mono (fun a h => Ba.none Sa.ob a h) fun a o _ z => sc _ _ z) is.1
  · have z : k < 16 := by rw [← names_16 n]; exact e3
    omega
theorem ok_read_ordinary (T : Txt w K mg) (u_pass_token : Cal P w K mg base (L2.CX P w) 5 "pass_token" p_pass_token (spPass K)) (u_with_sinister : Cal P w K mg base (L2.CX P w) 6 "with_sinister" p_with_sinister (spSin K)) (u_read_line : Cal P w K mg base (L2.CX P w) 6 "read_line" p_read_line (spLineR K)) (u_read_fill : Cal P w K mg base (L2.CX P w) 10 "read_fill" p_read_fill (spFillR K)) (m_Layer : Mak P w K mg base 1 "Layer" p_Layer_init (spI_Layer K)) : Cal P w K mg base (L2.CX P w) 11 "read_ordinary" p_read_ordinary (spOrdR K) := by
  refine T.d_read_ordinary.cal sc_read_ordinary (fun vs H Q E h => by obtain ⟨_, _, _, rfl, _⟩ := h; rfl) ?_
  intro cdv A outer s0 H vs Q E hr h
  have nd := sc_read_ordinary.nd
  have tk := tkX (P := P) (w := w) (K := K) (mg := mg) (base := base) (N := n_read_ordinary) (q := "read_ordinary") (sc := defScope s_read_ordinary) (f := He.ga K "read_ordinary") (cdv := cdv) (A := A) (outer := outer) (s := s0) (H := H) (E := E)
  have pX := paX (P := P) (w := w) (K := K) (mg := mg) (base := base) (N := n_read_ordinary) (q := "read_ordinary") (sc := defScope s_read_ordinary) (f := He.ga K "read_ordinary") (cdv := cdv) (A := A) (outer := outer) (s := s0) (H := H) (E := E)
  have po := poX (CX := L2.CX P w) (P := P) (w := w) (K := K) (mg := mg) (base := base) (N := n_read_ordinary) (q := "read_ordinary") (sc := defScope s_read_ordinary) (f := He.ga K "read_ordinary") (cdv := cdv) (A := A) (outer := outer) (s := s0) (H := H) (E := E)
  have h_pass_token : Room (5) _ := hr.mono (by omega)
  have h_with_sinister : Room (6) _ := hr.mono (by omega)
  have h_read_line : Room (6) _ := hr.mono (by omega)
  have h_read_fill : Room (10) _ := hr.mono (by omega)
  have h_Layer : Room (2) _ := hr.mono (by omega)
  refine ⟨_, (pss_cons (ps_set (i := 2) nd rfl (Or.inl rfl) (pe_bm PySem.F.plainAttrs_tuple PySem.F.slot_tuple_index PySem.F.type_tuple_index mt_tup_index (pe_gr T.g_ORDINARIES) (pa_cons (pe_cal u_with_sinister (h_with_sinister) pX (pa_cons (pv 0) (pa_cons (pe_fld (pe_cal u_pass_token (h_pass_token) pX (pa_cons (pv 0) pa_nil)) rfl) pa_nil))) pa_nil)))
      (pss_cons (ps_set (i := 3) nd rfl (Or.inl rfl) (pe_cal u_read_line (h_read_line) pX (pa_cons (pv 0) pa_nil)))
      (pss_one (ps_ret (pe_mak m_Layer (h_Layer) (pa_cons (pe_gi T.i_ORDINARY) (pa_cons (pe_lst (pa_cons (pv 2) (pa_cons (pv 3) pa_nil))) (pa_cons (pe_cal u_read_fill (h_read_fill) pX (pa_cons (pv 0) (pa_cons (pv 1) pa_nil))) pa_nil)))))))), ?_⟩
  try dsimp only [cxOf]
  clear h_Layer h_read_fill h_read_line h_with_sinister h_pass_token po pX tk nd
  obtain ⟨⟨ar, f⟩, R, q, rfl, pre, S, RP⟩ := h
  dsimp only at RP pre
  obtain ⟨preA, hw⟩ := pre
  have kE := RP.err
  have kO := RP.ok
  clear RP
  have ok := ok_stt S.le
  obtain ⟨k, h1, h2, h3, h4⟩ := tab_yes tab_ord ok hw
  walk_at "rd"
  refine ⟨T.y_ORDINARIES.ty, _, rfl, _, rfl, R, q, rfl, S, by have := hw.1; omega, fun x dx q1 H1 hd hq b1 S1 nx hx => ?_⟩
  walk_at "rd"
  rw [tokV_0 hw.1]
  have eg : ordG f (Stt R.b q) = ordAt f k (Stt R.b q1) := by simp only [ordG, h1, hd]
  rw [eg] at kE kO
  clear eg hx
  refine ⟨_, R, q1, rfl, (ords_len h3).2, S1, ⟨fun e he => (kE e ?_).bt b1, fun u q2 he v2 H2 b2 S2 is => ?_⟩⟩
  · obtain ⟨y1, y2, y3⟩ := sinE_err (sin_err sin_ord h3 he)
    simp only [ordAt, y3, bad_line y1, bad_fill y1, y2]
  obtain ⟨k2, f1, f2, f3⟩ := sin_ok sin_ord h3 he
  have f4 := sinE_ok f1
  obtain rfl : v2 = tv u := is
  have B2 := b1.trans b2
  refine ⟨_, _, _, _, rfl, rfl, tup_a (T.t_ORDINARIES _) t_ords, tup_b f2, tup_c f3, ?_⟩
  refine ⟨_, rfl, (), R, q2, rfl, trivial, S2, ⟨fun e he => (kE e ?_).bt B2, fun l q3 he v3 H3 b3 S3 is => ?_⟩⟩
  · obtain ⟨y1, y2, y3⟩ := lineE_err he
    simp only [ordAt, f4, y3, bad_fill y1, y2]
  obtain rfl : v3 = .int (l : Int) := is
  have el := lineE_ok he
  have hl5 : l ≤ 5 := by
    have := line_le (Stt R.b q2)
    rw [el] at this
    exact this
  have B3 := B2.trans b3
  walk_at "rd"
  refine ⟨by show 2 ≤ sizeLine; decide, fun p9 np9 => ?_⟩
  generalize hHa : upd H3 p9 _ = Ha
  have sa := new_same hHa np9
  have hpa := lst_at hHa
  have n9 := B3.none S3.ob p9 np9
  clear hHa
  have Sa := S3.same sa
  have Ba := B3.trans (.same sa)
  have np : p9 ≠ R.s := ne_of hpa Sa.ob (by intro z; cases z)
  walk_at "rd"
  refine ⟨(ar, f), R, q3, rfl, armsPre.rd preA S Ba, Sa, ⟨fun e he => (kE e (by simp only [ordAt, f4, el, he])).bt Ba, fun fl q5 he fv Hb bb Sb is => ?_⟩⟩
  have hpb := bb _ _ np hpa
  have Bb := Ba.trans bb
  refine mk_Layer fun x dx Hd nx sc hx => ?_
  refine kO (.ord k2 l fl) q5 (by simp only [ordAt, f4, el, he]) _ _ (Bb.trans (.same sc)) (Sb.same sc) ⟨⟨x, dx, p9, fv, rfl, dn_of (Bb.none Sb.ob x nx) hx, dn_of n9 (sc _ _ hpb), ?_⟩, (ords_len f2).1, hl5, is.2⟩
  exact IsFill.up (dn_mono (fun a h => Ba.none Sa.ob a h) fun a o _ z => sc _ _ z) is.1
end
end Hc

namespace Hc
open PySem PySem.Spec PyProof.Rows L2
open Sh ShMarsh ShBlazon
set_option hygiene false
local macro_rules | `(tactic| walk_at "hp") => `(tactic| first | assumption | exact Src.ob (by assumption) | exact Rdr.ob (by assumption) | exact upd_same)
local macro_rules | `(tactic| walk_at "sq") => `(tactic| first | assumption | exact Src.sq (by assumption) | exact Rdr.sq (by assumption) | exact SqL.of (by assumption) | exact SqL.of upd_same | exact SqT.of (by assumption) | exact SqT.of upd_same)
local macro_rules | `(tactic| walk_at "cl") => `(tactic| with_reducible first | exact T.c_Bytes | exact T.c_Coat | exact T.c_Arms | exact T.c_Layer | exact T.c_Token | exact T.c_Reader | exact T.c_Words)
local macro_rules | `(tactic| walk_at "na") => `(tactic| with_reducible first | exact T.n_Bytes_some | exact T.n_Bytes_at | exact T.n_Coat_kind | exact T.n_Coat_arms | exact T.n_Coat_canton | exact T.n_Coat_marks | exact T.n_Coat_coats | exact T.n_Arms_field | exact T.n_Arms_layers | exact T.n_Layer_kind | exact T.n_Layer_numbers | exact T.n_Layer_fill | exact T.n_Token_kind | exact T.n_Token_value | exact T.n_Token_place | exact T.n_Token_behind | exact T.n_Reader_some | exact T.n_Reader_at | exact T.n_Reader_end | exact T.n_Words_some | exact T.n_Words_at)
local macro_rules | `(tactic| walk_at "ai") => `(tactic| first | assumption | exact atI_nat (by assumption) | rfl)
local macro_rules | `(tactic| walk_at "rd1") => `(tactic| first
  | refine ⟨_, rfl, ?_⟩
  | refine ⟨rfl, ?_⟩
  | refine ⟨_, _, rfl, rfl, ?_⟩
  | refine ⟨_, _, _, _, _, rfl, (by walk_at "hp"), (by walk_at "cl"), (by walk_at "na"), (by rfl), ?_⟩
  | refine ⟨_, _, _, _, rfl, (by walk_at "hp"), (by walk_at "cl"), (by walk_at "na"), Nat.le_of_ble_eq_true rfl, ?_⟩
  | refine ⟨_, _, _, _, rfl, rfl, (by walk_at "sq"), (by walk_at "ai"), ?_⟩
  | refine ⟨_, _, rfl, (by first | exact Or.inl (by walk_at "sq") | exact Or.inr (by walk_at "sq")), ?_⟩
  | refine ⟨(by walk_at "ar"), ?_⟩)
local macro_rules | `(tactic| walk_at "ar") => `(tactic| first | exact (show CDiv _ _ from ⟨by decide, by decide⟩) | exact (show (0 : Int) < _ from by decide) | exact (show CMul _ _ from .inl ⟨by omega, by omega⟩) | exact (show CMul _ _ from .inr ⟨by omega, by omega⟩))
local macro_rules | `(tactic| walk_at "rd") => `(tactic| repeat walk_at "rd1")
local macro_rules | `(tactic| walk_at "fa") => `(tactic| first | exact ⟨_, rfl, (by omega), rfl⟩ | exact ⟨_, _, rfl, (by omega), rfl⟩ | exact ⟨_, _, _, rfl, (by omega), rfl⟩ | exact ⟨_, _, _, _, rfl, (by omega), rfl⟩ | exact ⟨_, _, _, _, _, rfl, (by omega), rfl⟩)
local macro_rules | `(tactic| walk_at "vr") => `(tactic| first
  | exact v_var (by rfl)
  | exact v_c
  | (apply v_i0 <;> walk_at "vr")
  | (apply v_i <;> first | walk_at "ar" | walk_at "vr")
  | (apply v_neg <;> walk_at "vr")
  | (apply v_eq <;> walk_at "vr")
  | (apply v_eqB <;> walk_at "vr")
  | (apply v_ne <;> walk_at "vr")
  | (apply v_neB <;> walk_at "vr")
  | (apply v_chain (g := fun _ _ => _) (g' := fun _ _ => _) <;> walk_at "vr")
  | (apply v_and <;> walk_at "vr")
  | (apply v_or <;> walk_at "vr")
  | (apply v_not <;> walk_at "vr")
  | (apply v_ifI <;> walk_at "vr")
  | (apply v_ifB <;> walk_at "vr")
  | (apply v_call <;> first | walk_at "fa" | walk_at "vr")
  | (apply v_abs <;> walk_at "vr")
  | (apply v_min <;> walk_at "vr")
  | exact va_nil
  | (apply va_cons <;> walk_at "vr")
  | (apply a_test <;> walk_at "vr")
  | (apply a_B <;> walk_at "vr")
  | (apply a_and <;> walk_at "vr")
  | (apply a_or <;> walk_at "vr")
  | (apply a_not <;> walk_at "vr"))
local macro_rules | `(tactic| walk_at "rs") => `(tactic| first
  | (apply r_ret; walk_at "vr")
  | (apply r_set; walk_at "vr"; walk_at "rs")
  | (apply r_ifI; walk_at "vr"; intro _; walk_at "rs"; intro _; walk_at "rs")
  | (apply r_ifB; walk_at "vr"; intro _; walk_at "rs"; intro _; walk_at "rs"))

section
variable {P : Program} {w : World} {K : PySem.W.Frag} {mg : Str → Option Value} {base : Heap}
theorem tab_counts : Tab COUNTS COUNTS COUNTS := by decide +kernel
theorem nodup_counts : CNTS10.Nodup := by decide +kernel
theorem count_words : ∀ w ∈ COUNTS, w ≠ ascii "a" ∧ w ≠ ascii "an" := by decide +kernel
theorem ord_vowel : ∀ w ∈ ORDS13, vowel w = false := by decide +kernel
theorem group_ord : ∀ w ∈ CHARGEWORDS ++ SIZES3, w ∉ ORDS13 := by decide +kernel
theorem lit_arts : [V.str (Str.ofString "a"), V.str (Str.ofString "an")] = [ascii "a", ascii "an"].map tv := by decide +kernel
theorem art_a (an : Bool) : decide (tv (artW an) = V.str (Str.ofString "a")) = !an := by
  cases an with
  | true => decide +kernel
  | false => decide +kernel
theorem lay_none {f : Field} {s : ShBlazon.St} (h1 : isWord s "a" = false) (h2 : isWord s "an" = false) : ShBlazon.layerAt f s = match eat COUNTS s with
    | .error e => .error e
    | .ok n => groupAt f (n.1 + 2) SEVERAL n.2 := by
  unfold ShBlazon.layerAt
  rw [h1, h2]
  rfl
theorem lay_art {f : Field} {s : ShBlazon.St} {an : Bool} (h : (isWord s "a" || isWord s "an") = true) (h2 : isWord s "an" = an) : ShBlazon.layerAt f s = (if single an (s.drop 1) = false then .error (wanted (s.drop 1))
    else if vowel (wordOf (s.drop 1)) ≠ an then .error (7, place s)
    else match look ORDWORDS (s.drop 1) with
    | some o => ordAt f o ((s.drop 1).drop 1)
    | none => groupAt f 1 CHARGEWORDS (s.drop 1)) := by
  unfold ShBlazon.layerAt
  rw [if_pos h, h2]
  rfl
theorem lay_group {f : Field} {s : ShBlazon.St} {an : Bool} (h : (isWord s "a" || isWord s "an") = true) (h2 : isWord s "an" = an) (ok : OkS (s.drop 1)) (ho : an = true ∨ ¬ (kindOf (s.drop 1) = 0 ∧ wordOf (s.drop 1) ∈ ORDS13)) :
    ShBlazon.layerAt f s = groupE f an (place s) (s.drop 1) := by
  rw [lay_art h h2]
  generalize s.drop 1 = t at *
  unfold groupE
  by_cases c : kindOf t = 0 ∧ wordOf t ∈ CHARGEWORDS ++ SIZES3
  · rw [if_pos c]
    have hs : single an t = true := by
      unfold single
      rcases List.mem_append.mp c.2 with z | z
      · obtain ⟨k, e, _⟩ := tab_yes tab_charge ok ⟨c.1, z⟩
        rw [e]
        simp
      · obtain ⟨k, e, _⟩ := tab_yes tab_size ok ⟨c.1, z⟩
        rw [e]
        simp
    have hn : look ORDWORDS t = none := tab_no tab_ord ok fun z => group_ord _ c.2 z.2
    rw [hs, hn]
    rfl
  · rw [if_neg c]
    have n1 : look SIZES t = none := tab_no tab_size ok fun z => c ⟨z.1, List.mem_append.mpr (.inr z.2)⟩
    have n2 : look CHARGEWORDS t = none := tab_no tab_charge ok fun z => c ⟨z.1, List.mem_append.mpr (.inl z.2)⟩
    have hs : single an t = false := by
      unfold single
      rw [n1, n2]
      rcases ho with z | z
      · rw [z]
        rfl
      · rw [tab_no tab_ord ok z]
        cases an <;> rfl
    rw [hs]
    rfl
abbrev spLayerR (K : PySem.W.Frag) : Sp := spRg (ι := Addr × Field) K (fun i => [.ref i.1]) (fun i _ _ H => armsPre K i H) (fun i => ShBlazon.layerAt i.2) (fun i _ => LayR K i.2)
theorem LayR.up {f : Field} {D D' : Hp} {v : V} {l : Layer} (e : Same D D') (h : LayR K f D v l) : LayR K f D' v l := ⟨IsLayer.up e h.1, h.2⟩
theorem ok_read_layer (T : Txt w K mg) (u_is_next : Cal P w K mg base (L2.CX P w) 5 "is_next" p_is_next (spNext K)) (u_pass_token : Cal P w K mg base (L2.CX P w) 5 "pass_token" p_pass_token (spPass K)) (u_read_group : Cal P w K mg base (L2.CX P w) 11 "read_group" p_read_group (spGroupR K)) (u_take : Cal P w K mg base (L2.CX P w) 6 "take" p_take (spTake K)) (u_read_ordinary : Cal P w K mg base (L2.CX P w) 11 "read_ordinary" p_read_ordinary (spOrdR K)) : Cal P w K mg base (L2.CX P w) 12 "read_layer" p_read_layer (spLayerR K) := by
  refine T.d_read_layer.cal sc_read_layer (fun vs H Q E h => by obtain ⟨_, _, _, rfl, _⟩ := h; rfl) ?_
  intro cdv A outer s0 H vs Q E hr h
  have nd := sc_read_layer.nd
  have tk := tkX (P := P) (w := w) (K := K) (mg := mg) (base := base) (N := n_read_layer) (q := "read_layer") (sc := defScope s_read_layer) (f := He.ga K "read_layer") (cdv := cdv) (A := A) (outer := outer) (s := s0) (H := H) (E := E)
  have pX := paX (P := P) (w := w) (K := K) (mg := mg) (base := base) (N := n_read_layer) (q := "read_layer") (sc := defScope s_read_layer) (f := He.ga K "read_layer") (cdv := cdv) (A := A) (outer := outer) (s := s0) (H := H) (E := E)
  have po := poX (CX := L2.CX P w) (P := P) (w := w) (K := K) (mg := mg) (base := base) (N := n_read_layer) (q := "read_layer") (sc := defScope s_read_layer) (f := He.ga K "read_layer") (cdv := cdv) (A := A) (outer := outer) (s := s0) (H := H) (E := E)
  have h_is_next : Room (5) _ := hr.mono (by omega)
  have h_pass_token : Room (5) _ := hr.mono (by omega)
  have h_read_group : Room (11) _ := hr.mono (by omega)
  have h_take : Room (6) _ := hr.mono (by omega)
  have h_read_ordinary : Room (11) _ := hr.mono (by omega)
  refine ⟨_, (pss_cons (ps_if (pt_val (pe_cal u_is_next (h_is_next) pX (pa_cons (pv 0) (pa_cons (pe_slice sl_tupA (pe_gr T.g_COUNTS) (po_some pe_int) po_none) pa_nil)))) (pss_cons (ps_set (i := 2) nd rfl (Or.inl rfl) (pe_op op_add (pe_bm PySem.F.plainAttrs_tuple PySem.F.slot_tuple_index PySem.F.type_tuple_index mt_tup_index (pe_gr T.g_COUNTS) (pa_cons (pe_fld (pe_cal u_pass_token (h_pass_token) pX (pa_cons (pv 0) pa_nil)) rfl) pa_nil)) pe_int))
      (pss_one (ps_ret (pe_cal u_read_group (h_read_group) pX (pa_cons (pv 0) (pa_cons (pv 1) (pa_cons (pv 2) (pa_cons pe_non pa_nil)))))))) pss_nil)
      (pss_cons (ps_set (i := 3) nd rfl (Or.inl rfl) (pe_cal u_take (h_take) pX (pa_cons (pv 0) (pa_cons (pe_tup (pa_cons pe_str (pa_cons pe_str pa_nil))) pa_nil))))
      (pss_cons (ps_if (PW.pt (pw_and (pt_cmpR op_eq (pe_fld (pv 3) rfl) pe_str (nomark _)) (pw_and1 (pt_val (pe_cal u_is_next (h_is_next) pX (pa_cons (pv 0) (pa_cons (pe_gr T.g_ORDINARIES) pa_nil))))))) (pss_one (ps_ret (pe_cal u_read_ordinary (h_read_ordinary) pX (pa_cons (pv 0) (pa_cons (pv 1) pa_nil))))) pss_nil)
      (pss_one (ps_ret (pe_cal u_read_group (h_read_group) pX (pa_cons (pv 0) (pa_cons (pv 1) (pa_cons pe_int (pa_cons (pv 3) pa_nil)))))))))), ?_⟩
  try dsimp only [cxOf]
  clear h_read_ordinary h_take h_read_group h_pass_token h_is_next po pX tk nd
  obtain ⟨⟨ar, f⟩, R, q, rfl, preA, S, RP⟩ := h
  dsimp only at RP preA
  have kE := RP.err
  have kO := RP.ok
  clear RP
  have ok := ok_stt S.le
  walk_at "rd"
  refine ⟨_, _, rfl, T.t_COUNTS _, fun z => absurd z.1 (by decide), fun _ => ?_⟩
  refine fun p hp_ => ?_
  generalize hH_ : upd _ p _ = H1
  have s1 := new_same hH_ hp_
  have hp1 := new_at hH_ (show cutV w_COUNTS (some 1) none = COUNTS.map tv by decide +kernel)
  clear hH_ hp_
  have S1 := S.same s1
  walk_at "rd"
  refine ⟨R, q, p, _, rfl, S1, .inr (SqT.of hp1), fun z => (kE _ ?_).bt (.same s1), fun hk H2 s2 => ?_⟩
  · have z' : kindOf (Stt R.b q) ≠ 0 := by omega
    rw [lay_none (bad_word z') (bad_word z'), bad_eat z']
  have S2 := S1.same s2
  have s02 : Same H H2 := fun b o y => s2 _ _ (s1 _ _ y)
  clear s1 s2 hp1 S1
  walk_at "rd"
  refine iteB (fun c => ?_) fun c => ?_
  · have c' := of_decide_eq_true c
    obtain ⟨k, h1, h2, h3, h4⟩ := tab_yes tab_counts ok c'
    have hk9 : k < 9 := h2
    have h5 : CNTS10[k + 1]? = some (wordOf (Stt R.b q)) := h3
    obtain ⟨w1, w2⟩ := count_words _ c'.2
    refine ⟨T.y_COUNTS.ty, _, rfl, R, q, rfl, S2, by have := c'.1; omega, fun x dx q1 H3 hd hq b3 S3 nx hx => ?_⟩
    have B3 := (Bt.same s02).trans b3
    walk_at "rd"
    rw [tokV_0 c'.1]
    refine ⟨_, _, _, _, rfl, rfl, tup_a (T.t_COUNTS _) t_counts, tup_b h5, tup_c (nodup_first nodup_counts h5), ?_⟩
    have eg : ShBlazon.layerAt f (Stt R.b q) = groupAt f (k + 2) SEVERAL (Stt R.b q1) := by
      rw [lay_none (is_not w1) (is_not w2)]
      simp only [eat, h1, hd]
    rw [eg] at kE kO
    walk_at "rd"
    exact ⟨⟨ar, f, k + 2, none⟩, R, q1, rfl, ⟨preA.rd S B3, by show 2 ≤ k + 2 ∧ k + 2 ≤ 10; omega⟩, S3, ⟨fun e he => (kE e he).bt B3, fun l q' he v H4 b4 S4 is => kO l q' he v H4 (B3.trans b4) S4 (is.up (dn_back B3 S3.ob))⟩⟩
  · have nc := of_decide_eq_false c
    walk_at "rd"
    refine ⟨by show 2 ≤ sizeLine; decide, ?_⟩
    refine fun p3 hp_ => ?_
    generalize hH_ : upd _ p3 _ = H3
    have s3 := new_same hH_ hp_
    have hp3 := new_at hH_ lit_arts
    clear hH_ hp_
    have S3 := S2.same s3
    have s03 : Same H H3 := fun b o y => s3 _ _ (s02 _ _ y)
    refine ⟨R, q, p3, _, rfl, S3, .inr (SqT.of hp3), fun e he => (kE e ?_).bt (.same s03), fun x q1 he y dy H4 b4 S4 ny hy => ?_⟩
    · unfold takeE at he
      by_cases z : kindOf (Stt R.b q) = 0 ∧ wordOf (Stt R.b q) ∈ [ascii "a", ascii "an"]
      · rw [if_pos z] at he
        cases he
      · rw [if_neg z] at he
        cases he
        have y1 : isWord (Stt R.b q) "a" = false := word_false fun y => z ⟨y.1, by rw [List.mem_singleton.mp y.2]; simp⟩
        have y2 : isWord (Stt R.b q) "an" = false := word_false fun y => z ⟨y.1, by rw [List.mem_singleton.mp y.2]; simp⟩
        rw [lay_none y1 y2]
        simp only [eat, tab_no tab_counts ok nc]
    unfold takeE at he
    by_cases z : kindOf (Stt R.b q) = 0 ∧ wordOf (Stt R.b q) ∈ [ascii "a", ascii "an"]
    · rw [if_pos z] at he
      injection he with he
      injection he with ex ed
      subst ex
      obtain ⟨an, ea⟩ : ∃ an, wordOf (Stt R.b q) = artW an := by
        rcases List.mem_cons.mp z.2 with y | y
        · exact ⟨false, y⟩
        · exact ⟨true, List.mem_singleton.mp y⟩
      have han : isWord (Stt R.b q) "an" = an := by
        cases an with
        | true => exact is_yes z.1 ea
        | false => exact is_not (by rw [ea]; decide +kernel)
      have hor : (isWord (Stt R.b q) "a" || isWord (Stt R.b q) "an") = true := by
        cases an with
        | true => rw [han]; simp
        | false => rw [is_yes (x := "a") z.1 ea]; rfl
      dsimp only at hy
      rw [ea] at hy
      have ok1 := ok_stt S4.le
      have B4 := (Bt.same s03).trans b4
      have grp : (an = true ∨ ¬ (kindOf (Stt R.b q1) = 0 ∧ wordOf (Stt R.b q1) ∈ ORDS13)) → ∀ H5, Same H4 H5 → tRet (tCall (spGroupR K) [] E (tCons (tVar 0) (tCons (tVar 1) (tCons (tC (V.int 1)) (tCons (tVar 3) tNil))))) { nx := fun x H' => Q V.non H', rt := Q } [some (.ref R.s), some (.ref ar), none, some (.ref y)] H5 := fun ho H5 s5 => by
        have S5 := S4.same s5
        have B5 := B4.trans (.same s5)
        have eg : ShBlazon.layerAt f (Stt R.b q) = groupE f an (place (Stt R.b q)) (Stt R.b q1) := by
          rw [← ed] at ok1 ho ⊢
          exact lay_group hor han ok1 ho
        rw [eg] at kE kO
        walk_at "rd"
        exact ⟨⟨ar, f, 1, some (y, dy, an, place (Stt R.b q), R.o + q1)⟩, R, q1, rfl, ⟨preA.rd S B5, rfl, s5 _ _ hy⟩, S5, ⟨fun e he => (kE e he).bt B5, fun l q' he v H6 b6 S6 is => kO l q' he v H6 (B5.trans b6) S6 (is.up (dn_back B5 S5.ob))⟩⟩
      walk_at "rd"
      rw [art_a]
      cases an with
      | true => exact grp (.inl rfl) H4 (Same.refl H4)
      | false =>
        walk_at "rd"
        refine ⟨R, q1, _, ORDS13, rfl, S4, .inr (t_ords ▸ T.t_ORDINARIES _), fun z4 => (kE _ ?_).bt B4, fun hk1 H5 s5 => ?_⟩
        · have z' : kindOf (Stt R.b q1) ≠ 0 := by omega
          have e1 := lay_art (f := f) hor han
          rw [ed] at e1
          rw [e1]
          have hs : single false (Stt R.b q1) = false := by
            unfold single
            rw [bad_look z', bad_look z', bad_look z']
            rfl
          rw [hs]
          rfl
        have S5 := S4.same s5
        have B5 := B4.trans (.same s5)
        walk_at "rd"
        refine iteB (fun c2 => ?_) fun c2 => ?_
        · have c2' := of_decide_eq_true c2
          obtain ⟨k, h1, h2, h3, h4⟩ := tab_yes tab_ord ok1 c2'
          have eg : ShBlazon.layerAt f (Stt R.b q) = ordG f (Stt R.b q1) := by
            have e1 := lay_art (f := f) hor han
            rw [ed] at e1
            rw [e1]
            have hs : single false (Stt R.b q1) = true := by
              unfold single
              rw [h1]
              rfl
            rw [hs, ord_vowel _ c2'.2, h1]
            unfold ordG
            rw [h1]
            rfl
          rw [eg] at kE kO
          walk_at "rd"
          exact ⟨(ar, f), R, q1, rfl, ⟨preA.rd S B5, c2'⟩, S5, ⟨fun e he => (kE e he).bt B5, fun l q' he v H6 b6 S6 is => kO l q' he v H6 (B5.trans b6) S6 (is.up (dn_back B5 S5.ob))⟩⟩
        · exact grp (.inr (of_decide_eq_false c2)) H5 s5
    · rw [if_neg z] at he
      cases he
end
end Hc

namespace Hc
open PySem PySem.Spec PyProof.Rows L2
open Sh ShMarsh ShBlazon
set_option hygiene false
local macro_rules | `(tactic| walk_at "hp") => `(tactic| first | assumption | exact Src.ob (by assumption) | exact Rdr.ob (by assumption) | exact upd_same)
local macro_rules | `(tactic| walk_at "sq") => `(tactic| first | assumption | exact Src.sq (by assumption) | exact Rdr.sq (by assumption) | exact SqL.of (by assumption) | exact SqL.of upd_same | exact SqT.of (by assumption) | exact SqT.of upd_same)
local macro_rules | `(tactic| walk_at "cl") => `(tactic| with_reducible first | exact T.c_Bytes | exact T.c_Coat | exact T.c_Arms | exact T.c_Layer | exact T.c_Token | exact T.c_Reader | exact T.c_Words)
local macro_rules | `(tactic| walk_at "na") => `(tactic| with_reducible first | exact T.n_Bytes_some | exact T.n_Bytes_at | exact T.n_Coat_kind | exact T.n_Coat_arms | exact T.n_Coat_canton | exact T.n_Coat_marks | exact T.n_Coat_coats | exact T.n_Arms_field | exact T.n_Arms_layers | exact T.n_Layer_kind | exact T.n_Layer_numbers | exact T.n_Layer_fill | exact T.n_Token_kind | exact T.n_Token_value | exact T.n_Token_place | exact T.n_Token_behind | exact T.n_Reader_some | exact T.n_Reader_at | exact T.n_Reader_end | exact T.n_Words_some | exact T.n_Words_at)
local macro_rules | `(tactic| walk_at "ai") => `(tactic| first | assumption | exact atI_nat (by assumption) | rfl)
local macro_rules | `(tactic| walk_at "rd1") => `(tactic| first
  | refine ⟨_, rfl, ?_⟩
  | refine ⟨rfl, ?_⟩
  | refine ⟨_, _, rfl, rfl, ?_⟩
  | refine ⟨_, _, _, _, _, rfl, (by walk_at "hp"), (by walk_at "cl"), (by walk_at "na"), (by rfl), ?_⟩
  | refine ⟨_, _, _, _, rfl, (by walk_at "hp"), (by walk_at "cl"), (by walk_at "na"), Nat.le_of_ble_eq_true rfl, ?_⟩
  | refine ⟨_, _, _, _, rfl, rfl, (by walk_at "sq"), (by walk_at "ai"), ?_⟩
  | refine ⟨_, _, rfl, (by first | exact Or.inl (by walk_at "sq") | exact Or.inr (by walk_at "sq")), ?_⟩
  | refine ⟨(by walk_at "ar"), ?_⟩)
local macro_rules | `(tactic| walk_at "ar") => `(tactic| first | exact (show CDiv _ _ from ⟨by decide, by decide⟩) | exact (show (0 : Int) < _ from by decide) | exact (show CMul _ _ from .inl ⟨by omega, by omega⟩) | exact (show CMul _ _ from .inr ⟨by omega, by omega⟩))
local macro_rules | `(tactic| walk_at "rd") => `(tactic| repeat walk_at "rd1")
local macro_rules | `(tactic| walk_at "fa") => `(tactic| first | exact ⟨_, rfl, (by omega), rfl⟩ | exact ⟨_, _, rfl, (by omega), rfl⟩ | exact ⟨_, _, _, rfl, (by omega), rfl⟩ | exact ⟨_, _, _, _, rfl, (by omega), rfl⟩ | exact ⟨_, _, _, _, _, rfl, (by omega), rfl⟩)
local macro_rules | `(tactic| walk_at "vr") => `(tactic| first
  | exact v_var (by rfl)
  | exact v_c
  | (apply v_i0 <;> walk_at "vr")
  | (apply v_i <;> first | walk_at "ar" | walk_at "vr")
  | (apply v_neg <;> walk_at "vr")
  | (apply v_eq <;> walk_at "vr")
  | (apply v_eqB <;> walk_at "vr")
  | (apply v_ne <;> walk_at "vr")
  | (apply v_neB <;> walk_at "vr")
  | (apply v_chain (g := fun _ _ => _) (g' := fun _ _ => _) <;> walk_at "vr")
  | (apply v_and <;> walk_at "vr")
  | (apply v_or <;> walk_at "vr")
  | (apply v_not <;> walk_at "vr")
  | (apply v_ifI <;> walk_at "vr")
  | (apply v_ifB <;> walk_at "vr")
  | (apply v_call <;> first | walk_at "fa" | walk_at "vr")
  | (apply v_abs <;> walk_at "vr")
  | (apply v_min <;> walk_at "vr")
  | exact va_nil
  | (apply va_cons <;> walk_at "vr")
  | (apply a_test <;> walk_at "vr")
  | (apply a_B <;> walk_at "vr")
  | (apply a_and <;> walk_at "vr")
  | (apply a_or <;> walk_at "vr")
  | (apply a_not <;> walk_at "vr"))
local macro_rules | `(tactic| walk_at "rs") => `(tactic| first
  | (apply r_ret; walk_at "vr")
  | (apply r_set; walk_at "vr"; walk_at "rs")
  | (apply r_ifI; walk_at "vr"; intro _; walk_at "rs"; intro _; walk_at "rs")
  | (apply r_ifB; walk_at "vr"; intro _; walk_at "rs"; intro _; walk_at "rs"))

section
variable {P : Program} {w : World} {K : PySem.W.Frag} {mg : Str → Option Value} {base : Heap}
theorem lays_bad {f : Field} {j : Nat} {s : ShBlazon.St} (h2 : kindOf s ≠ 2) (h3 : kindOf s ≠ 3) : layersAt f j s = .error (wanted s) := by
  cases j with
  | zero => unfold layersAt; rw [if_neg h2, if_neg h3]
  | succ j => unfold layersAt; rw [if_neg h2, if_neg h3]
theorem lays_end {f : Field} {j : Nat} {s : ShBlazon.St} (h3 : kindOf s = 3) : layersAt f j s = .ok [] := by
  have h2 : kindOf s ≠ 2 := by omega
  cases j with
  | zero => unfold layersAt; rw [if_neg h2, if_pos h3]
  | succ j => unfold layersAt; rw [if_neg h2, if_pos h3]
theorem lays_0 {f : Field} {s : ShBlazon.St} (h2 : kindOf s = 2) : layersAt f 0 s = .error (8, place s) := by unfold layersAt; rw [if_pos h2]
theorem lays_s {f : Field} {j : Nat} {s t : ShBlazon.St} (h2 : kindOf s = 2) (hd : s.drop 1 = t) : layersAt f (j + 1) s = match ShBlazon.layerAt f t with
    | .error e => .error e
    | .ok x => match layersAt f j x.2 with
      | .error e => .error e
      | .ok l => .ok (x.1 :: l) := by
  rw [← hd]
  conv => lhs; unfold layersAt
  rw [if_pos h2]
  rfl
/-- how layers go on behind the first ones -/
def laysOn (all rest : Except ShBlazon.Fault (List Layer)) (ls : List Layer) : Prop := all = match rest with
  | .error e => .error e
  | .ok r => .ok (ls ++ r)
theorem laysOn.err {all rest : Except ShBlazon.Fault (List Layer)} {ls : List Layer} {e : ShBlazon.Fault} (h : laysOn all rest ls) (q : rest = .error e) : all = .error e := by
  unfold laysOn at h
  rw [h, q]
theorem laysOn.ok {all rest : Except ShBlazon.Fault (List Layer)} {ls : List Layer} (h : laysOn all rest ls) (q : rest = .ok []) : all = .ok ls := by
  unfold laysOn at h
  rw [h, q]
  show Except.ok (ls ++ []) = _
  rw [List.append_nil]
theorem laysOn.start {all : Except ShBlazon.Fault (List Layer)} : laysOn all all [] := by
  unfold laysOn
  cases all <;> rfl
theorem laysOn.turn {all rest rest' : Except ShBlazon.Fault (List Layer)} {ls : List Layer} {x : Layer} (h : laysOn all rest ls) (q : rest = match rest' with
    | .error e => .error e
    | .ok l => .ok (x :: l)) : laysOn all rest' (ls ++ [x]) := by
  unfold laysOn at h ⊢
  rw [h, q]
  cases rest' with
  | error e => rfl
  | ok r =>
    show Except.ok (ls ++ x :: r) = Except.ok (ls ++ [x] ++ r)
    rw [List.append_assoc]
    rfl
/-- the promise of read_blazon -/
def spBlazonR (K : PySem.W.Frag) : Sp := fun vs H Q E => ∃ (c : Addr) (bs b : List UInt8) (o : Nat), vs = [.ref c, .int (o : Int), .int ((o + b.length : Nat) : Int)] ∧ SqL K H c (bs.map bv) ∧ (bs.take (o + b.length)).drop o = b ∧ o + b.length ≤ bs.length ∧ bs.length ≤ 5000 ∧
  (∀ e, ShBlazon.read b = .error e → ∀ (d : Addr) H', Same H H' → H' d = some (.xd [("place", .int ((o + e.2 : Nat) : Int)), ("kind", .int ((e.1 : Nat) : Int))]) → E (.ref (He.ga K "Fault")) (some d) H') ∧
  (∀ a, ShBlazon.read b = .ok a → ∀ v H', Same H H' → IsArms K (Dn H H') v a → WfArms a → Q v H')
theorem ok_read_blazon (T : Txt w K mg) (m_Reader : Mak P w K mg base 1 "Reader" p_Reader_init (spI_Reader K)) (u_read_field : Cal P w K mg base (L2.CX P w) 9 "read_field" p_read_field (spFieldR K)) (m_Arms : Mak P w K mg base 1 "Arms" p_Arms_init (spI_Arms K)) (u_ahead : Cal P w K mg base (L2.CX P w) 4 "ahead" p_ahead (spAhead K)) (u_pass_token : Cal P w K mg base (L2.CX P w) 5 "pass_token" p_pass_token (spPass K)) (q_Fault : Exq P w K mg base 1 "Fault" p_Fault_init (spErr2 K "Fault")) (u_read_layer : Cal P w K mg base (L2.CX P w) 12 "read_layer" p_read_layer (spLayerR K)) (u_want : Cal P w K mg base (L2.CX P w) 5 "want" p_want (spWant K)) : Cal P w K mg base (L2.CX P w) 13 "read_blazon" p_read_blazon (spBlazonR K) := by
  refine T.d_read_blazon.cal sc_read_blazon (fun vs H Q E h => by obtain ⟨_, _, _, _, rfl, _⟩ := h; rfl) ?_
  intro cdv A outer s0 H vs Q E hr h
  have nd := sc_read_blazon.nd
  have tk := tkX (P := P) (w := w) (K := K) (mg := mg) (base := base) (N := n_read_blazon) (q := "read_blazon") (sc := defScope s_read_blazon) (f := He.ga K "read_blazon") (cdv := cdv) (A := A) (outer := outer) (s := s0) (H := H) (E := E)
  have pX := paX (P := P) (w := w) (K := K) (mg := mg) (base := base) (N := n_read_blazon) (q := "read_blazon") (sc := defScope s_read_blazon) (f := He.ga K "read_blazon") (cdv := cdv) (A := A) (outer := outer) (s := s0) (H := H) (E := E)
  have po := poX (CX := L2.CX P w) (P := P) (w := w) (K := K) (mg := mg) (base := base) (N := n_read_blazon) (q := "read_blazon") (sc := defScope s_read_blazon) (f := He.ga K "read_blazon") (cdv := cdv) (A := A) (outer := outer) (s := s0) (H := H) (E := E)
  have h_Reader : Room (2) _ := hr.mono (by omega)
  have h_read_field : Room (9) _ := hr.mono (by omega)
  have h_Arms : Room (2) _ := hr.mono (by omega)
  have h_ahead : Room (4) _ := hr.mono (by omega)
  have h_pass_token : Room (5) _ := hr.mono (by omega)
  have h_Fault : Room (2) _ := hr.mono (by omega)
  have h_read_layer : Room (12) _ := hr.mono (by omega)
  have h_want : Room (5) _ := hr.mono (by omega)
  refine ⟨_, (pss_cons (ps_set (i := 3) nd rfl (Or.inl rfl) (pe_mak m_Reader (h_Reader) (pa_cons (pv 0) (pa_cons (pv 1) (pa_cons (pv 2) pa_nil)))))
      (pss_cons (ps_set (i := 4) nd rfl (Or.inl rfl) (pe_mak m_Arms (h_Arms) (pa_cons (pe_cal u_read_field (h_read_field) pX (pa_cons (pv 3) pa_nil)) pa_nil)))
      (pss_cons (ps_while po (pt_cmpR op_eq (pe_fld (pe_cal u_ahead (h_ahead) pX (pa_cons (pv 3) pa_nil)) rfl) (pe_gi T.i_COMMA) (nomark _)) (pss_cons (ps_set (i := 5) nd rfl (Or.inl rfl) (pe_cal u_pass_token (h_pass_token) pX (pa_cons (pv 3) pa_nil)))
      (pss_cons (ps_if (pt_cmpR op_eq (pe_callB call_len_seq (by rfl) T.f_len PySem.boot_len (pa_cons (pe_fld (pv 4) rfl) pa_nil)) (pe_gi T.i_MOST_LAYERS) (nomark _)) (pss_one (ps_raise rfl tk (pmk_exq q_Fault (h_Fault) (by exact (pa_cons pe_int (pa_cons (pe_fld (pv 5) rfl) pa_nil)))))) pss_nil)
      (pss_one (ps_expr (pe_bm PySem.F.plainAttrs_list PySem.F.slot_list_append PySem.F.type_list_append mt_append (pe_fld (pv 4) rfl) (pa_cons (pe_cal u_read_layer (h_read_layer) pX (pa_cons (pv 3) (pa_cons (pv 4) pa_nil))) pa_nil)))))))
      (pss_cons (ps_expr (pe_cal u_want (h_want) pX (pa_cons (pv 3) (pa_cons (pe_cmpR op_eq (pe_fld (pe_cal u_ahead (h_ahead) pX (pa_cons (pv 3) pa_nil)) rfl) (pe_gi T.i_END) (nomark _)) pa_nil))))
      (pss_one (ps_ret (pv 4))))))), ?_⟩
  try dsimp only [cxOf]
  clear h_want h_read_layer h_Fault h_pass_token h_ahead h_Arms h_read_field h_Reader po pX tk nd
  obtain ⟨c, bs, b, o, rfl, hS, hcut, hfit, hbig, kE, kO⟩ := h
  walk_at "rd"
  refine mk_Reader fun x dx H1 nx s1 hx => ?_
  generalize hR : (⟨x, dx, c, o, b, bs⟩ : Rs) = R
  have S1 : Rdr K H1 R 0 := by
    subst hR
    exact ⟨hx, s1.seq hS, hcut, hfit, Nat.zero_le _, hbig⟩
  have eb : R.b = b := by rw [← hR]
  have eo : R.o = o := by rw [← hR]
  have es : R.s = x := by rw [← hR]
  have ec : R.c = c := by rw [← hR]
  have ebs : R.bs = bs := by rw [← hR]
  have up1 : ∀ {H'}, Bt R.s H1 H' → Same H H' := fun {H'} e a u h => e a u (by rw [es]; exact ne_of_none h nx) (s1 a u h)
  rw [← eb] at kE kO
  rw [← eo] at kE
  have e0 : tokensOf R.b = Stt R.b 0 := stt_tokens R.b
  have fl : ∀ {H'}, (Same H H') → ∀ e, ShBlazon.read R.b = .error e → Fl K R H' E e := fun {H'} sa e he d H'' bb hd => kE e he d H'' (fun a u h => bb a u (by rw [es]; exact ne_of_none h nx) (sa a u h)) hd
  walk_at "rd"
  rw [← es]
  refine ⟨(), R, 0, rfl, trivial, S1, ⟨fun e he => fl s1 e (by simp only [ShBlazon.read, e0, he]), fun f q0 he0 fv H2 b2 S2 isF => ?_⟩⟩
  obtain ⟨⟨ff, rfl, hff⟩, wf⟩ := isF
  refine mk_Arms fun xa dxa l H3 nxa nl s3 hxa hl => ?_
  have S3 := S2.same s3
  have s02 := up1 b2
  have xas : xa ≠ R.s := fun z => by rw [z, S2.ob] at nxa; cases nxa
  have lsn : l ≠ R.s := fun z => by rw [z, S2.ob] at nl; cases nl
  have xal : xa ≠ l := ne_of hxa hl (by intro z; cases z)
  have hff3 : H3 ff = some (.tup (fieldV f)) := s3 _ _ (of_dn hff).2
  have up3 : ∀ {H'}, Bt2 R.s l H3 H' → Same H H' := fun {H'} e a u h => e a u (by rw [es]; exact ne_of_none h nx) (ne_of_none (s02 _ _ h) nl) (s3 _ _ (s02 _ _ h))
  refine ⟨fun m σ H' => ∃ (v5 : Option V) (vs : List V) (ls : List Layer) (q : Nat), σ = [some (.ref c), some (.int (o : Int)), some (.int ((o + b.length : Nat) : Int)), some (.ref R.s), some (.ref xa), v5] ∧ Bt2 R.s l H3 H' ∧ Rdr K H' R q ∧ H' l = some (.lst vs) ∧
    Paired (IsLayer K (Dn H3 H')) vs ls ∧ (∀ y ∈ ls, WfLayer f y) ∧ ls.length ≤ 8 ∧ laysOn (layersAt f 8 (Stt R.b q0)) (layersAt f (8 - ls.length) (Stt R.b q)) ls ∧ m = 8 - ls.length, ⟨_, none, [], [], q0, rfl, .of Bt.refl, S3, hl, .nil, fun _ h => (by cases h), Nat.zero_le _, .start, rfl⟩, ?_⟩
  rintro m σ H4 ⟨v5, vs, ls, q, rfl, B4, S4, hl4, P4, W4, n8, go4, rfl⟩
  have rd4 : ∀ e, layersAt f (8 - ls.length) (Stt R.b q) = .error e → Fl K R H4 E e := fun e he => fl (up3 B4) e (by
    have z := go4.err he
    simp only [ShBlazon.read, e0, he0, MOST, z])
  walk_at "rd"
  refine ⟨R, q, rfl, S4, fun z => rd4 _ (lays_bad (by omega) (by omega)), fun hk t dt H5 s5 nt ht => ?_⟩
  have S5 := S4.same s5
  walk_at "rd"
  refine iteB (fun c1 => ?_) fun c1 => ?_
  · have hk2 : kindOf (Stt R.b q) = 2 := by
      have z : V.int (((kindOf (Stt R.b q) + 1 : Nat)) : Int) = V.int 3 := of_decide_eq_true c1
      injection z with z
      omega
    refine ⟨fun σ' H' => ∃ (v5 : Option V) (vs : List V) (ls' : List Layer) (q' : Nat), ls.length < ls'.length ∧ σ' = [some (.ref c), some (.int (o : Int)), some (.int ((o + b.length : Nat) : Int)), some (.ref R.s), some (.ref xa), v5] ∧ Bt2 R.s l H3 H' ∧ Rdr K H' R q' ∧ H' l = some (.lst vs) ∧
      Paired (IsLayer K (Dn H3 H')) vs ls' ∧ (∀ y ∈ ls', WfLayer f y) ∧ ls'.length ≤ 8 ∧ laysOn (layersAt f 8 (Stt R.b q0)) (layersAt f (8 - ls'.length) (Stt R.b q')) ls', ?_, ?_⟩
    · rintro σ' H' ⟨v5, vs, ls', q', hq', e1, e2, e3, e4, e5, e6, e7, e8⟩
      exact ⟨8 - ls'.length, by omega, v5, vs, ls', q', e1, e2, e3, e4, e5, e6, e7, e8, rfl⟩
    walk_at "rd"
    refine ⟨R, q, rfl, S5, by omega, fun t2 dt2 q2 H6 hd hq b6 S6 nt2 ht2 => ?_⟩
    have B6 : Bt2 R.s l H3 H6 := B4.trans ((Bt2.of (.same s5)).trans (.of b6))
    have hxa6 := B6 _ _ xas xal hxa
    have hl6 := b6 _ _ lsn (s5 _ _ hl4)
    have eln : vs.length = ls.length := P4.length
    walk_at "rd"
    refine iteB (fun c2 => ?_) fun c2 => ?_
    · have c2' : ls.length = 8 := by
        have z : V.int ((vs.length : Nat) : Int) = V.int 8 := of_decide_eq_true c2
        injection z with z
        omega
      walk_at "rd"
      refine raise2 fun a H' sa _ ha => rd4 (8, place (Stt R.b q)) ?_ a H' ((Bt.same s5).trans (b6.trans (.same sa))) ?_
      · rw [c2']
        exact lays_0 hk2
      · rw [ha]
        rfl
    · have c2' : ls.length < 8 := by
        have z : ¬ vs.length = 8 := fun y => of_decide_eq_false c2 (by rw [y]; rfl)
        omega
      have en : 8 - ls.length = (8 - (ls.length + 1)) + 1 := by omega
      have estep := lays_s (f := f) (j := 8 - (ls.length + 1)) hk2 hd
      rw [← en] at estep
      walk_at "rd"
      refine ⟨.inl ⟨rfl, _, SqL.of hl6⟩, ?_⟩
      walk_at "rd"
      have hff6 : H6 ff = some (.tup (fieldV f)) := B6 _ _ (ne_of hff3 S3.ob (by intro z; cases z)) (ne_of hff3 hl (by intro z; cases z)) hff3
      refine ⟨(xa, f), R, q2, rfl, ⟨dxa, ff, l, hxa6, hff6⟩, S6, ⟨fun e he => (rd4 e (by rw [estep, show ShBlazon.layerAt f (Stt R.b q2) = .error e from he])).bt ((Bt.same s5).trans b6), fun y q7 he v H7 b7 S7 is => ?_⟩⟩
      have hl7 := b7 _ _ lsn hl6
      refine ⟨l, vs, _, rfl, rfl, hl7, Nat.lt_of_le_of_lt (show vs.length ≤ 8 by omega) (by decide), ?_⟩
      have BB : Bt2 R.s l H6 (upd H7 l (.lst (vs ++ [v]))) := (Bt2.of b7).put
      have BC : Bt2 R.s l H4 (upd H7 l (.lst (vs ++ [v]))) := ((Bt2.of (.same s5)).trans (.of b6)).trans BB
      have S8 : Rdr K (upd H7 l (.lst (vs ++ [v]))) R q7 := ⟨(upd_ne (Ne.symm lsn)).trans S7.ob, ?_, S7.cut, S7.fit, S7.le, S7.big⟩
      · refine ⟨_, vs ++ [v], ls ++ [y], q7, ?_, rfl, B4.trans BC, S8, upd_same, ?_, ?_, ?_, ?_⟩
        · rw [List.length_append]
          exact Nat.lt_succ_self _
        · refine Paired.snoc (Paired.up P4 fun _ _ z => IsLayer.up (BC.dn S3.ob hl) z) (IsLayer.up (dn_mono (B6.none S6.ob hl6) fun a o n h => ?_) is.1)
          rw [upd_ne (fun z => by rw [z, hl6] at n; cases n)]
          exact h
        · intro z hz
          rcases List.mem_append.mp hz with hz | hz
          · exact W4 z hz
          · rw [List.mem_singleton.mp hz]
            exact is.2
        · rw [List.length_append]
          show ls.length + 1 ≤ 8
          omega
        · rw [List.length_append]
          show laysOn _ (layersAt f (8 - (ls.length + 1)) (Stt R.b q7)) _
          refine go4.turn ?_
          rw [estep, show ShBlazon.layerAt f (Stt R.b q2) = .ok (y, Stt R.b q7) from he]
      · rw [ec, ebs]
        exact (up3 (B4.trans BC)).seq hS
  · have hk2 : kindOf (Stt R.b q) ≠ 2 := fun y => of_decide_eq_false c1 (by rw [y]; rfl)
    have hxa5 := s5 _ _ (B4 _ _ xas xal hxa)
    have hl5 := s5 _ _ hl4
    walk_at "rd"
    refine ⟨R, q, rfl, S5, fun z => (rd4 _ (lays_bad (by omega) (by omega))).bt (.same s5), fun hk t2 dt2 H6 s6 nt2 ht2 => ?_⟩
    have S6 := S5.same s6
    walk_at "rd"
    have k4 : (V.int (((kindOf (Stt R.b q) + 1 : Nat)) : Int) = V.int 4) ↔ kindOf (Stt R.b q) = 3 := ⟨fun h => by injection h with h; omega, fun h => by rw [h]; rfl⟩
    refine ⟨R, q, _, rfl, S6, fun z => (rd4 _ (lays_bad hk2 fun y => of_decide_eq_false z (k4.mpr y))).bt (.same fun b o y => s6 _ _ (s5 _ _ y)), fun z H7 s7 => ?_⟩
    have hk3 := k4.mp (of_decide_eq_true z)
    have s47 : Same H4 H7 := fun b o y => s7 _ _ (s6 _ _ (s5 _ _ y))
    have B7 : Bt2 R.s l H3 H7 := B4.trans (.of (.same s47))
    refine ⟨_, rfl, ?_⟩
    refine kO ⟨f, ls⟩ ?_ _ H7 (up3 B7) ⟨xa, dxa, l, _, vs, rfl, dn_of (s02.free nxa) (B7 _ _ xas xal hxa), ⟨ff, rfl, ?_⟩, dn_of (s02.free nl) (s47 _ _ hl4), ?_⟩ ⟨wf, n8, W4⟩
    · have z := go4.ok (lays_end hk3)
      simp only [ShBlazon.read, e0, he0, MOST, z]
    · refine dn_of (s1.free (of_dn hff).1) (B7 _ _ (ne_of hff3 S3.ob (by intro z; cases z)) (ne_of hff3 hl (by intro z; cases z)) hff3)
    · refine Paired.up P4 fun _ _ z => IsLayer.up (dn_mono (fun a h => s02.free (s3.free h)) fun a o _ y => s47 _ _ y) z
end
end Hc

/-! ### W. words of coats, by places -/
namespace Hc
open Sh ShMarsh ShBlazon
/-- the place behind blanks -/
def sk (bs : List UInt8) (p : Nat) : Nat := p + ((bs.drop p).takeWhile isBlank).length
def Lf (bs : List UInt8) (p : Nat) : Left := (p, bs.drop p)
theorem dropWhile_drop {p : UInt8 → Bool} : ∀ l : List UInt8, l.dropWhile p = l.drop (l.takeWhile p).length
  | [] => rfl
  | x :: l => by
    by_cases h : p x = true
    · rw [List.dropWhile_cons_of_pos h, List.takeWhile_cons_of_pos h, List.length_cons, List.drop_succ_cons]
      exact dropWhile_drop l
    · rw [List.dropWhile_cons_of_neg h, List.takeWhile_cons_of_neg h]
      rfl
theorem skip_L (bs : List UInt8) (p : Nat) : skip (Lf bs p) = Lf bs (sk bs p) := by
  unfold skip Lf sk
  dsimp only
  rw [dropWhile_drop, List.drop_drop]
theorem sk_ge (bs : List UInt8) (p : Nat) : p ≤ sk bs p := Nat.le_add_right ..
theorem sk_le {bs : List UInt8} {p : Nat} (h : p ≤ bs.length) : sk bs p ≤ bs.length := by
  have := tw_len isBlank (bs.drop p)
  rw [List.length_drop] at this
  unfold sk
  omega
theorem tw_dw {p : UInt8 → Bool} : ∀ l : List UInt8, (l.dropWhile p).takeWhile p = []
  | [] => rfl
  | x :: l => by
    by_cases h : p x = true
    · rw [List.dropWhile_cons_of_pos h]
      exact tw_dw l
    · rw [List.dropWhile_cons_of_neg h, List.takeWhile_cons_of_neg h]
theorem sk_sk (bs : List UInt8) (p : Nat) : sk bs (sk bs p) = sk bs p := by
  have e : bs.drop (sk bs p) = (bs.drop p).dropWhile isBlank := by
    rw [dropWhile_drop, List.drop_drop]
    rfl
  have e2 : sk bs (sk bs p) = sk bs p + ((bs.drop (sk bs p)).takeWhile isBlank).length := rfl
  rw [e2, e, tw_dw]
  rfl
theorem drop_get {bs : List UInt8} {k : Nat} {c : UInt8} : bs[k]? = some c ↔ ∃ r, bs.drop k = c :: r := by
  constructor
  · intro h
    have h1 := (List.getElem?_eq_some_iff.mp h)
    exact ⟨bs.drop (k + 1), by rw [List.drop_eq_getElem_cons h1.1, h1.2]⟩
  · rintro ⟨r, h⟩
    have z := congrArg (fun l : List UInt8 => l[0]?) h
    simp only [List.getElem?_drop, Nat.add_zero, List.getElem?_cons_zero] at z
    exact z
theorem drop_next {bs r : List UInt8} {k : Nat} {c : UInt8} (h : bs.drop k = c :: r) : r = bs.drop (k + 1) := by
  rw [← List.drop_drop, h]
  rfl
theorem sign_yes {bs : List UInt8} {p : Nat} {c : UInt8} (h : bs[sk bs p]? = some c) : sign c (Lf bs p) = some (Lf bs (sk bs p + 1)) := by
  obtain ⟨r, hr⟩ := drop_get.mp h
  unfold sign
  rw [skip_L]
  unfold Lf
  dsimp only
  rw [hr]
  dsimp only
  rw [if_pos rfl, drop_next hr]
theorem sign_no {bs : List UInt8} {p : Nat} {c : UInt8} (h : bs[sk bs p]? ≠ some c) : sign c (Lf bs p) = none := by
  unfold sign
  rw [skip_L]
  unfold Lf
  dsimp only
  cases e : bs.drop (sk bs p) with
  | nil => rfl
  | cons x r =>
    dsimp only
    rw [if_neg]
    intro z
    exact h (drop_get.mpr ⟨r, by rw [e, z]⟩)
theorem need_yes {bs : List UInt8} {p : Nat} {c : UInt8} (h : bs[sk bs p]? = some c) : needSign c (Lf bs p) = .ok (Lf bs (sk bs p + 1)) := by unfold needSign; rw [sign_yes h]
theorem need_no {bs : List UInt8} {p : Nat} {c : UInt8} (h : bs[sk bs p]? ≠ some c) : needSign c (Lf bs p) = .error (10, sk bs p) := by unfold needSign; rw [sign_no h, skip_L]; rfl
/-- the word at a place -/
def wd (bs : List UInt8) (k : Nat) : List UInt8 := (bs.drop k).takeWhile isLetter
theorem word_yes {bs : List UInt8} {p : Nat} {x : String} (h : wd bs (sk bs p) = ascii x) : word x (Lf bs p) = some (Lf bs (sk bs p + (ascii x).length)) := by
  unfold word
  rw [skip_L]
  unfold Lf
  dsimp only
  have h' : (bs.drop (sk bs p)).takeWhile isLetter = ascii x := h
  rw [h', if_pos rfl, List.drop_drop]
theorem word_no {bs : List UInt8} {p : Nat} {x : String} (h : wd bs (sk bs p) ≠ ascii x) : word x (Lf bs p) = none := by
  unfold word
  rw [skip_L]
  unfold Lf
  dsimp only
  rw [if_neg]
  exact h
theorem wd_len {bs : List UInt8} {k : Nat} : (wd bs k).length ≤ bs.length - k := by
  have := tw_len isLetter (bs.drop k)
  rw [List.length_drop] at this
  exact this
/-- arms in parentheses, behind ( -/
def armB (bs : List UInt8) (k : Nat) : List UInt8 := (bs.drop k).takeWhile fun (c : UInt8) => c != 41
theorem arms_no {bs : List UInt8} {p : Nat} (h : bs[sk bs p]? ≠ some 40) : armsIn (Lf bs p) = .error (10, sk bs p) := by unfold armsIn; rw [need_no h]
theorem arms_yes {bs : List UInt8} {p k : Nat} (h : bs[sk bs p]? = some 40) (hk : k = sk bs p + 1) : armsIn (Lf bs p) = if (armB bs k).length = bs.length - k then .error (10, k + (armB bs k).length) else match ShBlazon.read (armB bs k) with
    | .ok a => .ok (a, Lf bs (k + (armB bs k).length + 1))
    | .error e => .error (e.1, k + e.2) := by
  unfold armsIn
  rw [need_yes h, ← hk]
  unfold Lf
  dsimp only
  rw [List.length_drop, List.drop_drop]
  rfl
theorem armB_cut {bs : List UInt8} {k : Nat} : (bs.take (k + (armB bs k).length)).drop k = armB bs k := by
  rw [List.drop_take, show k + (armB bs k).length - k = (armB bs k).length by omega]
  have := List.prefix_iff_eq_take.mp (List.takeWhile_prefix (fun (c : UInt8) => c != 41) (l := bs.drop k))
  exact this.symm
/-- marks, one at least -/
def marksG (s : Left) : Except ShBlazon.Fault (List (Nat × Nat) × Left) := match marksIn MARKS s with
  | .error e => .error e
  | .ok m => if m.1.isEmpty = true then .error (10, (skip s).1) else .ok m
theorem markedIn_no {a : Arms} {c : Option Arms} {s : Left} (h : word "marked" s = none) : markedIn a c s = .ok (.one ⟨a, c, []⟩, s) := by unfold markedIn; rw [h]
theorem markedIn_yes {a : Arms} {c : Option Arms} {s t : Left} (h : word "marked" s = some t) : markedIn a c s = match marksG t with
    | .error e => .error e
    | .ok m => .ok (.one ⟨a, c, m.1⟩, m.2) := by
  unfold markedIn marksG
  rw [h]
  dsimp only
  cases marksIn MARKS t with
  | error e => rfl
  | ok m =>
    dsimp only
    by_cases z : m.1.isEmpty = true
    · rw [if_pos z, if_pos z]
    · rw [if_neg z, if_neg z]
theorem digit_next (bs : List UInt8) (p : Nat) : digitNext (Lf bs p) = match bs[sk bs p]? with
    | some c => isDigit c
    | none => false := by
  unfold digitNext
  rw [skip_L]
  unfold Lf
  dsimp only
  cases e : bs.drop (sk bs p) with
  | nil =>
    cases e2 : bs[sk bs p]? with
    | none => rfl
    | some c =>
      obtain ⟨r, hr⟩ := drop_get.mp e2
      rw [e] at hr
      cases hr
  | cons x r => rw [drop_get.mpr ⟨r, e⟩]
theorem marks_0 {s : Left} : marksIn 0 s = if digitNext s = true then .error (12, (skip s).1) else .ok ([], s) := by unfold marksIn; rfl
theorem marks_no {n : Nat} {s : Left} (h : digitNext s = false) : marksIn n s = .ok ([], s) := by
  cases n with
  | zero => unfold marksIn; rw [h]; rfl
  | succ n => unfold marksIn; rw [h]; rfl
theorem marks_s {n : Nat} {s : Left} (h : digitNext s = true) : marksIn (n + 1) s = match markIn (skip s) with
    | .error e => .error e
    | .ok x => match marksIn n x.2 with
      | .error e => .error e
      | .ok l => .ok (x.1 :: l.1, l.2) := by
  conv => lhs; unfold marksIn
  rw [if_pos h]
  rfl
/-- how a list of things goes on behind the first ones -/
def onW {α : Type} (all rest : Except ShBlazon.Fault (List α × Left)) (ls : List α) : Prop := all = match rest with
  | .error e => .error e
  | .ok r => .ok (ls ++ r.1, r.2)
theorem onW.err {α : Type} {all rest : Except ShBlazon.Fault (List α × Left)} {ls : List α} {e : ShBlazon.Fault} (h : onW all rest ls) (q : rest = .error e) : all = .error e := by
  unfold onW at h
  rw [h, q]
theorem onW.ok {α : Type} {all rest : Except ShBlazon.Fault (List α × Left)} {ls : List α} {s : Left} (h : onW all rest ls) (q : rest = .ok ([], s)) : all = .ok (ls, s) := by
  unfold onW at h
  rw [h, q]
  show Except.ok (ls ++ [], s) = _
  rw [List.append_nil]
theorem onW.turn {α : Type} {all rest rest' : Except ShBlazon.Fault (List α × Left)} {ls : List α} {x : α} (h : onW all rest ls) (q : rest = match rest' with
    | .error e => .error e
    | .ok l => .ok (x :: l.1, l.2)) : onW all rest' (ls ++ [x]) := by
  unfold onW at h ⊢
  rw [h, q]
  cases rest' with
  | error e => rfl
  | ok r =>
    show Except.ok (ls ++ x :: r.1, r.2) = Except.ok (ls ++ [x] ++ r.1, r.2)
    rw [List.append_assoc]
    rfl
/-- behind a coat of several -/
def contC (f d : Nat) (ls : List Coat) (s : Left) : Except ShBlazon.Fault (List Coat × Left) := match sign 59 s with
  | some t => (match moreIn f d t with
    | .error e => .error e
    | .ok l => .ok (ls ++ l.1, l.2))
  | none => match needSign 93 s with
    | .error e => .error e
    | .ok t => .ok (ls, t)
theorem more_err {f d : Nat} {s : Left} {e : ShBlazon.Fault} (h : coatIn f d s = .error e) : moreIn (f + 1) d s = .error e := by
  unfold moreIn
  rw [h]
theorem more_ok {f d : Nat} {s : Left} {x : Coat × Left} (h : coatIn f d s = .ok x) : moreIn (f + 1) d s = contC f d [x.1] x.2 := by
  conv => lhs; unfold moreIn
  rw [h]
  dsimp only
  unfold contC
  cases sign 59 x.2 with
  | none => rfl
  | some t =>
    dsimp only
    cases moreIn f d t with
    | error e => rfl
    | ok l => rfl
theorem cont_err {f d : Nat} {ls : List Coat} {s t : Left} {e : ShBlazon.Fault} (hs : sign 59 s = some t) (h : coatIn f d t = .error e) : contC (f + 1) d ls s = .error e := by
  unfold contC
  rw [hs]
  dsimp only
  rw [more_err h]
theorem cont_ok {f d : Nat} {ls : List Coat} {s t : Left} {x : Coat × Left} (hs : sign 59 s = some t) (h : coatIn f d t = .ok x) : contC (f + 1) d ls s = contC f d (ls ++ [x.1]) x.2 := by
  conv => lhs; unfold contC
  rw [hs]
  dsimp only
  rw [more_ok h]
  unfold contC
  cases sign 59 x.2 with
  | none =>
    dsimp only
    cases needSign 93 x.2 with
    | error e => rfl
    | ok u => rfl
  | some u =>
    dsimp only
    cases moreIn f d u with
    | error e => rfl
    | ok l =>
      simp only [List.append_assoc]
      try rfl
theorem cont_end {f d : Nat} {ls : List Coat} {s : Left} (hs : sign 59 s = none) : contC f d ls s = match needSign 93 s with
    | .error e => .error e
    | .ok t => .ok (ls, t) := by
  unfold contC
  rw [hs]
/-- coats in brackets, of a kind -/
def listG (n f d pl : Nat) (s : Left) : Except ShBlazon.Fault (List Coat × Left) :=
  if n = 1 then (match needSign 91 s with
    | .error e => .error e
    | .ok u => match moreIn f d u with
      | .error e => .error e
      | .ok l => if l.1.length < 2 ∨ QUARTERS < l.1.length then .error (14, pl) else .ok l)
  else match twoIn f d s with
    | .error e => .error e
    | .ok x => .ok ([x.1.1, x.1.2], x.2)
theorem coat_0 {f : Nat} {s : Left} : coatIn (f + 1) 0 s = .error (13, (skip s).1) := by unfold coatIn; rfl
theorem coat_one {f d : Nat} {s : Left} (h1 : word "quarterly" s = none) (h2 : word "impaled" s = none) (h3 : word "pretence" s = none) : coatIn (f + 1) (d + 1) s = oneIn s := by
  unfold coatIn
  rw [if_neg (by omega), h1, h2, h3]
end Hc

namespace Hc
open PySem PySem.Spec PyProof.Rows L2
open Sh ShMarsh ShBlazon
set_option hygiene false
local macro_rules | `(tactic| walk_at "hp") => `(tactic| first | assumption | exact Src.ob (by assumption) | exact Rdr.ob (by assumption) | exact upd_same)
local macro_rules | `(tactic| walk_at "sq") => `(tactic| first | assumption | exact Src.sq (by assumption) | exact Rdr.sq (by assumption) | exact SqL.of (by assumption) | exact SqL.of upd_same | exact SqT.of (by assumption) | exact SqT.of upd_same)
local macro_rules | `(tactic| walk_at "cl") => `(tactic| with_reducible first | exact T.c_Bytes | exact T.c_Coat | exact T.c_Arms | exact T.c_Layer | exact T.c_Token | exact T.c_Reader | exact T.c_Words)
local macro_rules | `(tactic| walk_at "na") => `(tactic| with_reducible first | exact T.n_Bytes_some | exact T.n_Bytes_at | exact T.n_Coat_kind | exact T.n_Coat_arms | exact T.n_Coat_canton | exact T.n_Coat_marks | exact T.n_Coat_coats | exact T.n_Arms_field | exact T.n_Arms_layers | exact T.n_Layer_kind | exact T.n_Layer_numbers | exact T.n_Layer_fill | exact T.n_Token_kind | exact T.n_Token_value | exact T.n_Token_place | exact T.n_Token_behind | exact T.n_Reader_some | exact T.n_Reader_at | exact T.n_Reader_end | exact T.n_Words_some | exact T.n_Words_at)
local macro_rules | `(tactic| walk_at "ai") => `(tactic| first | assumption | exact atI_nat (by assumption) | rfl)
local macro_rules | `(tactic| walk_at "rd1") => `(tactic| first
  | refine ⟨_, rfl, ?_⟩
  | refine ⟨rfl, ?_⟩
  | refine ⟨_, _, rfl, rfl, ?_⟩
  | refine ⟨_, _, _, _, _, rfl, (by walk_at "hp"), (by walk_at "cl"), (by walk_at "na"), (by rfl), ?_⟩
  | refine ⟨_, _, _, _, rfl, (by walk_at "hp"), (by walk_at "cl"), (by walk_at "na"), Nat.le_of_ble_eq_true rfl, ?_⟩
  | refine ⟨_, _, _, _, rfl, rfl, (by walk_at "sq"), (by walk_at "ai"), ?_⟩
  | refine ⟨_, _, rfl, (by first | exact Or.inl (by walk_at "sq") | exact Or.inr (by walk_at "sq")), ?_⟩
  | refine ⟨(by walk_at "ar"), ?_⟩)
local macro_rules | `(tactic| walk_at "ar") => `(tactic| first | exact (show CDiv _ _ from ⟨by decide, by decide⟩) | exact (show (0 : Int) < _ from by decide) | exact (show CMul _ _ from .inl ⟨by omega, by omega⟩) | exact (show CMul _ _ from .inr ⟨by omega, by omega⟩))
local macro_rules | `(tactic| walk_at "rd") => `(tactic| repeat walk_at "rd1")
local macro_rules | `(tactic| walk_at "fa") => `(tactic| first | exact ⟨_, rfl, (by omega), rfl⟩ | exact ⟨_, _, rfl, (by omega), rfl⟩ | exact ⟨_, _, _, rfl, (by omega), rfl⟩ | exact ⟨_, _, _, _, rfl, (by omega), rfl⟩ | exact ⟨_, _, _, _, _, rfl, (by omega), rfl⟩)
local macro_rules | `(tactic| walk_at "vr") => `(tactic| first
  | exact v_var (by rfl)
  | exact v_c
  | (apply v_i0 <;> walk_at "vr")
  | (apply v_i <;> first | walk_at "ar" | walk_at "vr")
  | (apply v_neg <;> walk_at "vr")
  | (apply v_eq <;> walk_at "vr")
  | (apply v_eqB <;> walk_at "vr")
  | (apply v_ne <;> walk_at "vr")
  | (apply v_neB <;> walk_at "vr")
  | (apply v_chain (g := fun _ _ => _) (g' := fun _ _ => _) <;> walk_at "vr")
  | (apply v_and <;> walk_at "vr")
  | (apply v_or <;> walk_at "vr")
  | (apply v_not <;> walk_at "vr")
  | (apply v_ifI <;> walk_at "vr")
  | (apply v_ifB <;> walk_at "vr")
  | (apply v_call <;> first | walk_at "fa" | walk_at "vr")
  | (apply v_abs <;> walk_at "vr")
  | (apply v_min <;> walk_at "vr")
  | exact va_nil
  | (apply va_cons <;> walk_at "vr")
  | (apply a_test <;> walk_at "vr")
  | (apply a_B <;> walk_at "vr")
  | (apply a_and <;> walk_at "vr")
  | (apply a_or <;> walk_at "vr")
  | (apply a_not <;> walk_at "vr"))
local macro_rules | `(tactic| walk_at "rs") => `(tactic| first
  | (apply r_ret; walk_at "vr")
  | (apply r_set; walk_at "vr"; walk_at "rs")
  | (apply r_ifI; walk_at "vr"; intro _; walk_at "rs"; intro _; walk_at "rs")
  | (apply r_ifB; walk_at "vr"; intro _; walk_at "rs"; intro _; walk_at "rs"))

section
variable {P : Program} {w : World} {K : PySem.W.Frag} {mg : Str → Option Value} {base : Heap}
def byV (bs : List UInt8) (k : Nat) : V := match bs[k]? with
  | some b => bv b
  | none => .int (-1)
def byI (bs : List UInt8) (k : Nat) : Int := match bs[k]? with
  | some b => ((b.toNat : Nat) : Int)
  | none => -1
theorem by_VI (bs : List UInt8) (k : Nat) : byV bs k = .int (byI bs k) := by
  unfold byV byI
  cases bs[k]? <;> rfl
abbrev WordsC (K : PySem.W.Frag) : Addr := He.ga K "Words"
theorem Src.same {C : Addr} {H H' : Hp} {s dx c : Addr} {bs : B} {k : Nat} (S : Src K C H s dx c bs k) (e : Same H H') : Src K C H' s dx c bs k := ⟨e _ _ S.ob, e.seq S.sq, S.le, S.big⟩
def FlW (K : PySem.W.Frag) (s : Addr) (H : Hp) (E : XK) (e : ShBlazon.Fault) : Prop := ∀ (d : Addr) H', Bt s H H' → H' d = some (.xd [("place", .int ((e.2 : Nat) : Int)), ("kind", .int ((e.1 : Nat) : Int))]) → E (.ref (He.ga K "Fault")) (some d) H'
theorem FlW.bt {s : Addr} {H H1 : Hp} {E : XK} {e : ShBlazon.Fault} (f : FlW K s H E e) (b : Bt s H H1) : FlW K s H1 E e := fun d H' b' hd => f d H' (b.trans b') hd
def spByteAt (K : PySem.W.Frag) : Sp := fun vs H Q _ => ∃ (s dx c : Addr) (bs : List UInt8) (p k : Nat), vs = [.ref s, .int (k : Int)] ∧ Src K (WordsC K) H s dx c bs p ∧ Q (byV bs k) H
def spBlanks (K : PySem.W.Frag) : Sp := fun vs H Q _ => ∃ (s dx c : Addr) (bs : List UInt8) (p : Nat), vs = [.ref s] ∧ Src K (WordsC K) H s dx c bs p ∧
  ∀ H', Bt s H H' → Src K (WordsC K) H' s dx c bs (sk bs p) → Q (byV bs (sk bs p)) H'
def spSign (K : PySem.W.Frag) : Sp := fun vs H Q E => ∃ (s dx c : Addr) (bs : List UInt8) (p : Nat) (g : UInt8), vs = [.ref s, bv g] ∧ Src K (WordsC K) H s dx c bs p ∧ (bs[sk bs p]? ≠ some g → FlW K s H E (10, sk bs p)) ∧
  (bs[sk bs p]? = some g → ∀ H', Bt s H H' → Src K (WordsC K) H' s dx c bs (sk bs p + 1) → Q .non H')
def spWordA (K : PySem.W.Frag) : Sp := fun vs H Q _ => ∃ (s dx c : Addr) (bs : List UInt8) (p : Nat), vs = [.ref s] ∧ Src K (WordsC K) H s dx c bs p ∧
  ∀ H', Bt s H H' → Src K (WordsC K) H' s dx c bs (sk bs p) → Q (tv (wd bs (sk bs p))) H'
theorem ok_byte_at (T : Txt w K mg)  : Cal P w K mg base CX0 1 "byte_at" p_byte_at (spByteAt K) := by
  refine T.d_byte_at.cal sc_byte_at (fun vs H Q E h => by obtain ⟨_, _, _, _, _, _, rfl, _⟩ := h; rfl) ?_
  intro cdv A outer s0 H vs Q E hr h
  have nd := sc_byte_at.nd
  have po := poX (CX := CX0) (P := P) (w := w) (K := K) (mg := mg) (base := base) (N := n_byte_at) (q := "byte_at") (sc := defScope s_byte_at) (f := He.ga K "byte_at") (cdv := cdv) (A := A) (outer := outer) (s := s0) (H := H) (E := E)
  refine ⟨_, (pss_one (ps_ret (pe_ifExp (pt_cmpR op_lt (pv 1) (pe_callB call_len_seq (by rfl) T.f_len PySem.boot_len (pa_cons (pe_fld (pv 0) rfl) pa_nil)) (nomark _)) (pe_ix ix_list (pe_fld (pv 0) rfl) (pv 1) (fun _ _ => rfl)) (pe_un un_neg pe_int)))), ?_⟩
  try dsimp only [cxOf]
  clear po nd
  obtain ⟨s, dx, c, bs, p, k, rfl, S, kQ⟩ := h
  walk_at "rd"
  rw [List.length_map]
  refine iteB (fun c1 => ?_) fun c1 => ?_
  · have c1' : k < bs.length := by
      have := of_decide_eq_true c1
      omega
    have hb : (bs.map bv)[k]? = some (bv bs[k]) := by simp [c1']
    have e : byV bs k = bv bs[k] := by
      unfold byV
      rw [List.getElem?_eq_getElem c1']
    rw [e] at kQ
    walk_at "rd"
    exact kQ
  · have c1' : ¬ k < bs.length := by
      have := of_decide_eq_false c1
      omega
    have e : byV bs k = .int (-1) := by
      unfold byV
      rw [List.getElem?_eq_none (by omega)]
    rw [e] at kQ
    walk_at "rd"
    exact kQ
theorem ok_pass_blanks (T : Txt w K mg) (u_behind_blanks : Cal P w K mg base CX0 2 "behind_blanks" p_behind_blanks (spBehind isBlank K)) (u_byte_at : Cal P w K mg base CX0 1 "byte_at" p_byte_at (spByteAt K)) : Cal P w K mg base CX0 3 "pass_blanks" p_pass_blanks (spBlanks K) := by
  refine T.d_pass_blanks.cal sc_pass_blanks (fun vs H Q E h => by obtain ⟨_, _, _, _, _, rfl, _⟩ := h; rfl) ?_
  intro cdv A outer s0 H vs Q E hr h
  have nd := sc_pass_blanks.nd
  have po := poX (CX := CX0) (P := P) (w := w) (K := K) (mg := mg) (base := base) (N := n_pass_blanks) (q := "pass_blanks") (sc := defScope s_pass_blanks) (f := He.ga K "pass_blanks") (cdv := cdv) (A := A) (outer := outer) (s := s0) (H := H) (E := E)
  have h_behind_blanks : Room (2) _ := hr.mono (by omega)
  have h_byte_at : Room (1) _ := hr.mono (by omega)
  refine ⟨_, (pss_cons (ps_fld (pv 0) (pe_cal u_behind_blanks (h_behind_blanks) (p0X (E := E0)) (pa_cons (pe_fld (pv 0) rfl) (pa_cons (pe_fld (pv 0) rfl) (pa_cons (pe_callB call_len_seq (by rfl) T.f_len PySem.boot_len (pa_cons (pe_fld (pv 0) rfl) pa_nil)) pa_nil)))) rfl)
      (pss_one (ps_ret (pe_cal u_byte_at (h_byte_at) (p0X (E := E0)) (pa_cons (pv 0) (pa_cons (pe_fld (pv 0) rfl) pa_nil)))))), ?_⟩
  try dsimp only [cxOf]
  clear h_byte_at h_behind_blanks po nd
  obtain ⟨s, dx, c, bs, p, rfl, S, kQ⟩ := h
  have hle := S.le
  walk_at "rd"
  rw [List.length_map]
  refine ⟨c, bs, p, bs.length, rfl, S.sq, hle, Nat.le_refl _, fun H1 s1 => ?_⟩
  rw [List.take_length, show p + ((bs.drop p).takeWhile isBlank).length = sk bs p from rfl]
  have S1 := S.same s1
  walk_at "rd"
  have S2 := S1.put (j := sk bs p) (fs := putF "at" (.int ((sk bs p : Nat) : Int)) (srcF c p)) rfl (sk_le hle)
  walk_at "rd"
  refine ⟨s, dx, c, bs, sk bs p, sk bs p, rfl, S2, kQ _ ((Bt.same s1).put) S2⟩
theorem by_sign {bs : List UInt8} {k : Nat} {g : UInt8} : byV bs k = bv g ↔ bs[k]? = some g := by
  unfold byV
  cases e : bs[k]? with
  | none =>
    refine ⟨fun z => ?_, fun z => by cases z⟩
    unfold bv at z
    injection z with z
    omega
  | some b =>
    refine ⟨fun z => ?_, fun z => by cases z; rfl⟩
    unfold bv at z
    injection z with z
    have : b.toNat = g.toNat := by omega
    rw [UInt8.toNat_inj.mp this]
theorem ok_take_sign (T : Txt w K mg) (u_pass_blanks : Cal P w K mg base CX0 3 "pass_blanks" p_pass_blanks (spBlanks K)) (q_Fault : Exq P w K mg base 1 "Fault" p_Fault_init (spErr2 K "Fault")) : Cal P w K mg base (L2.CX P w) 4 "take_sign" p_take_sign (spSign K) := by
  refine T.d_take_sign.cal sc_take_sign (fun vs H Q E h => by obtain ⟨_, _, _, _, _, _, rfl, _⟩ := h; rfl) ?_
  intro cdv A outer s0 H vs Q E hr h
  have nd := sc_take_sign.nd
  have tk := tkX (P := P) (w := w) (K := K) (mg := mg) (base := base) (N := n_take_sign) (q := "take_sign") (sc := defScope s_take_sign) (f := He.ga K "take_sign") (cdv := cdv) (A := A) (outer := outer) (s := s0) (H := H) (E := E)
  have pX := paX (P := P) (w := w) (K := K) (mg := mg) (base := base) (N := n_take_sign) (q := "take_sign") (sc := defScope s_take_sign) (f := He.ga K "take_sign") (cdv := cdv) (A := A) (outer := outer) (s := s0) (H := H) (E := E)
  have po := poX (CX := L2.CX P w) (P := P) (w := w) (K := K) (mg := mg) (base := base) (N := n_take_sign) (q := "take_sign") (sc := defScope s_take_sign) (f := He.ga K "take_sign") (cdv := cdv) (A := A) (outer := outer) (s := s0) (H := H) (E := E)
  have h_pass_blanks : Room (3) _ := hr.mono (by omega)
  have h_Fault : Room (2) _ := hr.mono (by omega)
  refine ⟨_, (pss_cons (ps_if (pt_cmpR op_ne (pe_cal u_pass_blanks (h_pass_blanks) (p0X (E := E0)) (pa_cons (pv 0) pa_nil)) (pv 1) (nomark _)) (pss_one (ps_raise rfl tk (pmk_exq q_Fault (h_Fault) (by exact (pa_cons pe_int (pa_cons (pe_fld (pv 0) rfl) pa_nil)))))) pss_nil)
      (pss_one (ps_fld (pv 0) (pe_op op_add (pe_fld (pv 0) rfl) pe_int) rfl))), ?_⟩
  try dsimp only [cxOf]
  clear h_Fault h_pass_blanks po pX tk nd
  obtain ⟨s, dx, c, bs, p, g, rfl, S, kE, kQ⟩ := h
  walk_at "rd"
  refine ⟨s, dx, c, bs, p, rfl, S, fun H1 b1 S1 => ?_⟩
  walk_at "rd"
  refine ⟨by rw [by_VI]; rfl, ?_⟩
  refine ⟨_, rfl, ?_⟩
  refine iteB (fun c1 => ?_) fun c1 => ?_
  · have c1' : bs[sk bs p]? ≠ some g := fun z => by
      rw [decide_eq_true (by_sign.mpr z)] at c1
      cases c1
    walk_at "rd"
    exact raise2 fun a H' sa _ ha => kE c1' a H' (b1.trans (.same sa)) ha
  · have c1' := by_sign.mp (of_decide_eq_true (ndf c1))
    have hlt := (List.getElem?_eq_some_iff.mp c1').1
    walk_at "rd"
    exact kQ c1' _ b1.put (S1.put rfl hlt)
theorem cutB {bs : List UInt8} {i n : Nat} (h : i + n ≤ bs.length) : cutV (bs.map bv) (some ((i : Nat) : Int)) (some ((i + n : Nat) : Int)) = ((bs.drop i).take n).map bv := by
  rw [cutV_two (by omega) (by rw [List.length_map]; omega), ← List.map_drop, ← List.map_take]
  congr 2
  omega
theorem ok_word_ahead (T : Txt w K mg) (u_pass_blanks : Cal P w K mg base CX0 3 "pass_blanks" p_pass_blanks (spBlanks K)) (u_behind_letters : Cal P w K mg base CX0 2 "behind_letters" p_behind_letters (spBehind isLetter K)) (u_text_of : Cal P w K mg base CX0 1 "text_of" p_text_of (spText K)) : Cal P w K mg base CX0 4 "word_ahead" p_word_ahead (spWordA K) := by
  refine T.d_word_ahead.cal sc_word_ahead (fun vs H Q E h => by obtain ⟨_, _, _, _, _, rfl, _⟩ := h; rfl) ?_
  intro cdv A outer s0 H vs Q E hr h
  have nd := sc_word_ahead.nd
  have po := poX (CX := CX0) (P := P) (w := w) (K := K) (mg := mg) (base := base) (N := n_word_ahead) (q := "word_ahead") (sc := defScope s_word_ahead) (f := He.ga K "word_ahead") (cdv := cdv) (A := A) (outer := outer) (s := s0) (H := H) (E := E)
  have h_pass_blanks : Room (3) _ := hr.mono (by omega)
  have h_behind_letters : Room (2) _ := hr.mono (by omega)
  have h_text_of : Room (1) _ := hr.mono (by omega)
  refine ⟨_, (pss_cons (ps_expr (pe_cal u_pass_blanks (h_pass_blanks) (p0X (E := E0)) (pa_cons (pv 0) pa_nil)))
      (pss_one (ps_ret (pe_cal u_text_of (h_text_of) (p0X (E := E0)) (pa_cons (pe_slice sl_list (pe_fld (pv 0) rfl) (po_some (pe_fld (pv 0) rfl)) (po_some (pe_cal u_behind_letters (h_behind_letters) (p0X (E := E0)) (pa_cons (pe_fld (pv 0) rfl) (pa_cons (pe_fld (pv 0) rfl) (pa_cons (pe_callB call_len_seq (by rfl) T.f_len PySem.boot_len (pa_cons (pe_fld (pv 0) rfl) pa_nil)) pa_nil)))))) pa_nil))))), ?_⟩
  try dsimp only [cxOf]
  clear h_text_of h_behind_letters h_pass_blanks po nd
  obtain ⟨s, dx, c, bs, p, rfl, S, kQ⟩ := h
  walk_at "rd"
  refine ⟨s, dx, c, bs, p, rfl, S, fun H1 b1 S1 => ?_⟩
  have hle := S1.le
  have hbig := S1.big
  walk_at "rd"
  rw [List.length_map]
  refine ⟨c, bs, sk bs p, bs.length, rfl, S1.sq, hle, Nat.le_refl _, fun H2 s2 => ?_⟩
  rw [List.take_length, show ((bs.drop (sk bs p)).takeWhile isLetter).length = (wd bs (sk bs p)).length from rfl]
  have S2 := S1.same s2
  have hwl := wd_len (bs := bs) (k := sk bs p)
  refine ⟨_, rfl, c, _, rfl, S2.sq, ?_⟩
  refine fun p3 hp_ => ?_
  generalize hH_ : upd H2 p3 _ = H3
  have s3 := new_same hH_ hp_
  have hp3 := lst_at hH_
  rw [cutB (by omega), show (bs.drop (sk bs p)).take (wd bs (sk bs p)).length = wd bs (sk bs p) from pre_take _] at hp3
  clear hH_
  have S3 := S2.same s3
  walk_at "rd"
  refine ⟨p3, _, rfl, SqL.of hp3, all_take, by omega, fun H4 s4 => ?_⟩
  exact kQ H4 (b1.trans (.same fun b o y => s4 _ _ (s3 _ _ (s2 _ _ y)))) (S3.same s4)
/-- a reading of words: p0 the place by the specification, p by the program -/
structure RdW {α : Type} (K : PySem.W.Frag) (g : Left → Except ShBlazon.Fault (α × Left)) (Is : Hp → V → α → Prop) (H : Hp) (s dx c : Addr) (bs : List UInt8) (p0 : Nat) (Q : VK) (E : XK) : Prop where
  err : ∀ e, g (Lf bs p0) = .error e → FlW K s H E e
  ok : ∀ a p2, g (Lf bs p0) = .ok (a, Lf bs p2) → p0 ≤ p2 → ∀ v H' p3, sk bs p3 = sk bs p2 → Bt s H H' → Src K (WordsC K) H' s dx c bs p3 → Is (Dn H H') v a → Q v H'
def spRdW {ι α : Type} (K : PySem.W.Frag) (ws : ι → List V) (pre : ι → List UInt8 → Nat → Prop) (g : ι → Left → Except ShBlazon.Fault (α × Left)) (Is : ι → Hp → V → α → Prop) : Sp := fun vs H Q E => ∃ (i : ι) (s dx c : Addr) (bs : List UInt8) (p0 p : Nat), vs = .ref s :: ws i ∧ pre i bs p0 ∧ Src K (WordsC K) H s dx c bs p ∧ sk bs p = sk bs p0 ∧ RdW K (g i) (Is i) H s dx c bs p0 Q E
abbrev spArmsW (K : PySem.W.Frag) : Sp := spRdW (ι := Unit) K (fun _ => []) (fun _ _ _ => True) (fun _ => armsIn) (fun _ D v a => IsArms K D v a ∧ WfArms a)
theorem ok_read_arms (T : Txt w K mg) (u_take_sign : Cal P w K mg base (L2.CX P w) 4 "take_sign" p_take_sign (spSign K)) (q_Fault : Exq P w K mg base 1 "Fault" p_Fault_init (spErr2 K "Fault")) (u_read_blazon : Cal P w K mg base (L2.CX P w) 13 "read_blazon" p_read_blazon (spBlazonR K)) : Cal P w K mg base (L2.CX P w) 14 "read_arms" p_read_arms (spArmsW K) := by
  refine T.d_read_arms.cal sc_read_arms (fun vs H Q E h => by obtain ⟨_, _, _, _, _, _, _, rfl, _⟩ := h; rfl) ?_
  intro cdv A outer s0 H vs Q E hr h
  have nd := sc_read_arms.nd
  have tk := tkX (P := P) (w := w) (K := K) (mg := mg) (base := base) (N := n_read_arms) (q := "read_arms") (sc := defScope s_read_arms) (f := He.ga K "read_arms") (cdv := cdv) (A := A) (outer := outer) (s := s0) (H := H) (E := E)
  have pX := paX (P := P) (w := w) (K := K) (mg := mg) (base := base) (N := n_read_arms) (q := "read_arms") (sc := defScope s_read_arms) (f := He.ga K "read_arms") (cdv := cdv) (A := A) (outer := outer) (s := s0) (H := H) (E := E)
  have po := poX (CX := L2.CX P w) (P := P) (w := w) (K := K) (mg := mg) (base := base) (N := n_read_arms) (q := "read_arms") (sc := defScope s_read_arms) (f := He.ga K "read_arms") (cdv := cdv) (A := A) (outer := outer) (s := s0) (H := H) (E := E)
  have h_take_sign : Room (4) _ := hr.mono (by omega)
  have h_Fault : Room (2) _ := hr.mono (by omega)
  have h_read_blazon : Room (13) _ := hr.mono (by omega)
  refine ⟨_, (pss_cons (ps_expr (pe_cal u_take_sign (h_take_sign) pX (pa_cons (pv 0) (pa_cons (pe_gi T.i_OPENING) pa_nil))))
      (pss_cons (ps_set (i := 1) nd rfl (Or.inl rfl) (pe_fld (pv 0) rfl))
      (pss_cons (ps_set (i := 2) nd rfl (Or.inl rfl) (pv 1))
      (Evl.pss_cut (ps_while po (PW.pt (pw_and (pt_cmpR op_lt (pv 2) (pe_callB call_len_seq (by rfl) T.f_len PySem.boot_len (pa_cons (pe_fld (pv 0) rfl) pa_nil)) (nomark _)) (pw_and1 (pt_cmpR op_ne (pe_ix ix_list (pe_fld (pv 0) rfl) (pv 2) (fun _ _ => rfl)) (pe_gi T.i_CLOSING) (nomark _))))) (pss_one (ps_set (i := 2) nd rfl (Or.inl rfl) (pe_op op_add (pv 2) pe_int))))
      (pss_cons (ps_if (pt_cmpR op_eq (pv 2) (pe_callB call_len_seq (by rfl) T.f_len PySem.boot_len (pa_cons (pe_fld (pv 0) rfl) pa_nil)) (nomark _)) (pss_one (ps_raise rfl tk (pmk_exq q_Fault (h_Fault) (by exact (pa_cons pe_int (pa_cons (pv 2) pa_nil)))))) pss_nil)
      (pss_cons (ps_set (i := 3) nd rfl (Or.inl rfl) (pe_cal u_read_blazon (h_read_blazon) pX (pa_cons (pe_fld (pv 0) rfl) (pa_cons (pv 1) (pa_cons (pv 2) pa_nil)))))
      (pss_cons (ps_fld (pv 0) (pe_op op_add (pv 2) pe_int) rfl)
      (pss_one (ps_ret (pv 3)))))))))), ?_⟩
  try dsimp only [cxOf]
  clear h_read_blazon h_Fault h_take_sign po pX tk nd
  obtain ⟨_, s, dx, c, bs, p0, p, rfl, _, S, ep, RP⟩ := h
  dsimp only at RP
  have kE := RP.err
  have kO := RP.ok
  clear RP
  have hbig := S.big
  walk_at "rd"
  refine ⟨s, dx, c, bs, p, 40, rfl, S, fun z => kE _ (by rw [ep] at z ⊢; exact arms_no z), fun z H1 b1 S1 => ?_⟩
  rw [ep] at z S1
  have ea := arms_yes z rfl
  have hk := S1.le
  generalize hkk : sk bs p0 + 1 = k at *
  rw [ea] at kE kO
  have hlen : (armB bs k).length ≤ bs.length - k := by
    have := tw_len (fun (c : UInt8) => c != 41) (bs.drop k)
    rw [List.length_drop] at this
    exact this
  walk_at "rd"
  refine ⟨fun σ H' => σ = [some (.ref s), some (.int (k : Int)), some (.int ((k + (armB bs k).length : Nat) : Int)), none] ∧ H' = H1, ?_, ?_⟩
  · refine ⟨fun m σ H' => ∃ i, σ = [some (.ref s), some (.int (k : Int)), some (.int ((k + i : Nat) : Int)), none] ∧ H' = H1 ∧ i ≤ (armB bs k).length ∧ m = (armB bs k).length - i, ⟨_, 0, rfl, rfl, Nat.zero_le _, rfl⟩, ?_⟩
    rintro m σ H' ⟨i, rfl, rfl, hi, rfl⟩
    have tw := tw_at (X := bs.drop k) (p := fun (c : UInt8) => c != 41) hi
    walk_at "rd"
    rw [List.length_map]
    refine iteB (fun c1 => ?_) fun c1 => ?_
    · have hlt : k + i < bs.length := by
        have := of_decide_eq_true c1
        omega
      have hbi : (bs.drop k)[i]? = some bs[k + i] := by rw [List.getElem?_drop, List.getElem?_eq_getElem hlt]
      have hv : (bs.map bv)[k + i]? = some (bv bs[k + i]) := by simp [hlt]
      walk_at "rd"
      refine iteB (fun c2 => ?_) fun c2 => ?_
      · have c2' : (bs[k + i] != 41) = true := by
          rw [bne_iff_ne]
          intro z
          rw [z] at c2
          simp [bv] at c2
        have z2 := (tw.1 _ hbi).1 c2'
        refine ⟨fun σ' H2 => ∃ j, j = i + 1 ∧ σ' = [some (.ref s), some (.int (k : Int)), some (.int ((k + j : Nat) : Int)), none] ∧ H2 = H', fun σ' H2 z => ?_, ?_⟩
        · obtain ⟨j, rfl, e1, s3⟩ := z
          exact ⟨_, by show (armB bs k).length - (i + 1) < (armB bs k).length - i; have : i + 1 ≤ (armB bs k).length := z2; omega, i + 1, e1, s3, z2, rfl⟩
        · walk_at "rd"
          rfl
      · have c2' : (bs[k + i] != 41) = false := by
          rw [bne_eq_false_iff_eq]
          have z : bv bs[k + i] = V.int ((41 : Nat) : Int) := by simpa using c2
          exact UInt8.toNat_inj.mp (bv_nat.mp z)
        have z2 : i = (armB bs k).length := (tw.1 _ hbi).2 c2'
        refine ⟨?_, rfl⟩
        rw [z2]
    · have c1' : ¬ k + i < bs.length := by
        have := of_decide_eq_false c1
        omega
      have z2 : i = (armB bs k).length := tw.2 (by rw [List.getElem?_drop, List.getElem?_eq_none (by omega)])
      refine ⟨?_, rfl⟩
      rw [z2]
  rintro _ _ ⟨rfl, rfl⟩
  walk_at "rd"
  rw [List.length_map]
  refine iteB (fun c1 => ?_) fun c1 => ?_
  · have c1' : (armB bs k).length = bs.length - k := by
      have z := of_decide_eq_true c1
      injection z with z
      omega
    walk_at "rd"
    exact raise2 fun a H' sa _ ha => kE (10, k + (armB bs k).length) (by rw [if_pos c1']) a H' (b1.trans (.same sa)) ha
  · have c1' : ¬ (armB bs k).length = bs.length - k := fun z => of_decide_eq_false c1 (by rw [show k + (armB bs k).length = bs.length by omega])
    rw [if_neg c1'] at kE kO
    walk_at "rd"
    refine ⟨c, bs, armB bs k, k, rfl, S1.sq, armB_cut, by omega, hbig, fun e he d H2 s2 hd => kE (e.1, k + e.2) (by rw [he]) d H2 (b1.trans (.same s2)) hd, fun a he v H2 s2 isA wf => ?_⟩
    have S2 := S1.same s2
    have B2 := b1.trans (.same s2)
    walk_at "rd"
    have S3 := S2.put (j := k + (armB bs k).length + 1) (fs := putF "at" (.int (((k + (armB bs k).length : Nat) : Int) + 1)) (srcF c k)) rfl (by omega)
    refine kO a (k + (armB bs k).length + 1) (by rw [he]) ?_ v _ _ rfl B2.put S3 ⟨IsArms.up (dn_mono (fun b h => b1.none S1.ob b h) fun b o n h => ?_) isA, wf⟩
    · have := sk_ge bs p0
      omega
    · rw [upd_ne (fun z => by rw [z, S1.ob] at n; cases n)]
      exact h
end
end Hc

namespace Hc
open PySem PySem.Spec PyProof.Rows L2
open Sh ShMarsh ShBlazon
set_option hygiene false
local macro_rules | `(tactic| walk_at "hp") => `(tactic| first | assumption | exact Src.ob (by assumption) | exact Rdr.ob (by assumption) | exact upd_same)
local macro_rules | `(tactic| walk_at "sq") => `(tactic| first | assumption | exact Src.sq (by assumption) | exact Rdr.sq (by assumption) | exact SqL.of (by assumption) | exact SqL.of upd_same | exact SqT.of (by assumption) | exact SqT.of upd_same)
local macro_rules | `(tactic| walk_at "cl") => `(tactic| with_reducible first | exact T.c_Bytes | exact T.c_Coat | exact T.c_Arms | exact T.c_Layer | exact T.c_Token | exact T.c_Reader | exact T.c_Words)
local macro_rules | `(tactic| walk_at "na") => `(tactic| with_reducible first | exact T.n_Bytes_some | exact T.n_Bytes_at | exact T.n_Coat_kind | exact T.n_Coat_arms | exact T.n_Coat_canton | exact T.n_Coat_marks | exact T.n_Coat_coats | exact T.n_Arms_field | exact T.n_Arms_layers | exact T.n_Layer_kind | exact T.n_Layer_numbers | exact T.n_Layer_fill | exact T.n_Token_kind | exact T.n_Token_value | exact T.n_Token_place | exact T.n_Token_behind | exact T.n_Reader_some | exact T.n_Reader_at | exact T.n_Reader_end | exact T.n_Words_some | exact T.n_Words_at)
local macro_rules | `(tactic| walk_at "ai") => `(tactic| first | assumption | exact atI_nat (by assumption) | rfl)
local macro_rules | `(tactic| walk_at "rd1") => `(tactic| first
  | refine ⟨_, rfl, ?_⟩
  | refine ⟨rfl, ?_⟩
  | refine ⟨_, _, rfl, rfl, ?_⟩
  | refine ⟨_, _, _, _, _, rfl, (by walk_at "hp"), (by walk_at "cl"), (by walk_at "na"), (by rfl), ?_⟩
  | refine ⟨_, _, _, _, rfl, (by walk_at "hp"), (by walk_at "cl"), (by walk_at "na"), Nat.le_of_ble_eq_true rfl, ?_⟩
  | refine ⟨_, _, _, _, rfl, rfl, (by walk_at "sq"), (by walk_at "ai"), ?_⟩
  | refine ⟨_, _, rfl, (by first | exact Or.inl (by walk_at "sq") | exact Or.inr (by walk_at "sq")), ?_⟩
  | refine ⟨(by walk_at "ar"), ?_⟩)
local macro_rules | `(tactic| walk_at "ar") => `(tactic| first | exact (show CDiv _ _ from ⟨by decide, by decide⟩) | exact (show (0 : Int) < _ from by decide) | exact (show CMul _ _ from .inl ⟨by omega, by omega⟩) | exact (show CMul _ _ from .inr ⟨by omega, by omega⟩))
local macro_rules | `(tactic| walk_at "rd") => `(tactic| repeat walk_at "rd1")
local macro_rules | `(tactic| walk_at "fa") => `(tactic| first | exact ⟨_, rfl, (by omega), rfl⟩ | exact ⟨_, _, rfl, (by omega), rfl⟩ | exact ⟨_, _, _, rfl, (by omega), rfl⟩ | exact ⟨_, _, _, _, rfl, (by omega), rfl⟩ | exact ⟨_, _, _, _, _, rfl, (by omega), rfl⟩)
local macro_rules | `(tactic| walk_at "vr") => `(tactic| first
  | exact v_var (by rfl)
  | exact v_c
  | (apply v_i0 <;> walk_at "vr")
  | (apply v_i <;> first | walk_at "ar" | walk_at "vr")
  | (apply v_neg <;> walk_at "vr")
  | (apply v_eq <;> walk_at "vr")
  | (apply v_eqB <;> walk_at "vr")
  | (apply v_ne <;> walk_at "vr")
  | (apply v_neB <;> walk_at "vr")
  | (apply v_chain (g := fun _ _ => _) (g' := fun _ _ => _) <;> walk_at "vr")
  | (apply v_and <;> walk_at "vr")
  | (apply v_or <;> walk_at "vr")
  | (apply v_not <;> walk_at "vr")
  | (apply v_ifI <;> walk_at "vr")
  | (apply v_ifB <;> walk_at "vr")
  | (apply v_call <;> first | walk_at "fa" | walk_at "vr")
  | (apply v_abs <;> walk_at "vr")
  | (apply v_min <;> walk_at "vr")
  | exact va_nil
  | (apply va_cons <;> walk_at "vr")
  | (apply a_test <;> walk_at "vr")
  | (apply a_B <;> walk_at "vr")
  | (apply a_and <;> walk_at "vr")
  | (apply a_or <;> walk_at "vr")
  | (apply a_not <;> walk_at "vr"))
local macro_rules | `(tactic| walk_at "rs") => `(tactic| first
  | (apply r_ret; walk_at "vr")
  | (apply r_set; walk_at "vr"; walk_at "rs")
  | (apply r_ifI; walk_at "vr"; intro _; walk_at "rs"; intro _; walk_at "rs")
  | (apply r_ifB; walk_at "vr"; intro _; walk_at "rs"; intro _; walk_at "rs"))

section
variable {P : Program} {w : World} {K : PySem.W.Frag} {mg : Str → Option Value} {base : Heap}
def dd (bs : List UInt8) (p : Nat) : List UInt8 := (bs.drop p).takeWhile isDigit
theorem dig_at (bs : List UInt8) (p : Nat) : digN (byI bs p) = match bs[p]? with
    | some c => isDigit c
    | none => false := by
  unfold byI
  cases bs[p]? with
  | none => rfl
  | some c => exact dig_byte c
theorem dd_nil {bs : List UInt8} {p : Nat} (h : digN (byI bs p) = false) : dd bs p = [] := by
  rw [dig_at] at h
  unfold dd
  cases e : bs[p]? with
  | none =>
    rw [List.drop_eq_nil_of_le (List.getElem?_eq_none_iff.mp e)]
    rfl
  | some c =>
    rw [e] at h
    obtain ⟨r, hr⟩ := drop_get.mp e
    rw [hr, List.takeWhile_cons_of_neg]
    have h' : isDigit c = false := h
    rw [h']
    decide
theorem dd_cons {bs : List UInt8} {p : Nat} (h : digN (byI bs p) = true) : ∃ c r, bs[p]? = some c ∧ dd bs p = c :: r ∧ isDigit c = true := by
  rw [dig_at] at h
  cases e : bs[p]? with
  | none => rw [e] at h; cases h
  | some c =>
    rw [e] at h
    have h' : isDigit c = true := h
    obtain ⟨r, hr⟩ := drop_get.mp e
    refine ⟨c, r.takeWhile isDigit, rfl, ?_, h'⟩
    unfold dd
    rw [hr, List.takeWhile_cons_of_pos h']
theorem num_nil {bs : List UInt8} {p : Nat} (h : dd bs p = []) : number (Lf bs p) = .error (10, p) := by
  unfold number Lf
  dsimp only
  rw [if_pos]
  exact h
theorem num_bad {bs : List UInt8} {p : Nat} (h : dd bs p ≠ []) (h2 : dd bs p ≠ [48] ∧ ((dd bs p).head? = some 48 ∨ 1000 ≤ valueOf (dd bs p))) : number (Lf bs p) = .error (2, p) := by
  unfold number Lf
  dsimp only
  rw [show (bs.drop p).takeWhile isDigit = dd bs p from rfl, if_neg h, if_pos h2]
theorem num_good {bs : List UInt8} {p : Nat} (h : dd bs p ≠ []) (h2 : ¬ (dd bs p ≠ [48] ∧ ((dd bs p).head? = some 48 ∨ 1000 ≤ valueOf (dd bs p)))) : number (Lf bs p) = .ok (valueOf (dd bs p), Lf bs (p + (dd bs p).length)) := by
  unfold number Lf
  dsimp only
  rw [show (bs.drop p).takeWhile isDigit = dd bs p from rfl, if_neg h, if_neg h2, List.drop_drop]
def spNumber (K : PySem.W.Frag) : Sp := fun vs H Q E => ∃ (s dx c : Addr) (bs : List UInt8) (p : Nat), vs = [.ref s] ∧ Src K (WordsC K) H s dx c bs p ∧ (∀ e, number (Lf bs p) = .error e → FlW K s H E e) ∧
  (∀ n p2, number (Lf bs p) = .ok (n, Lf bs p2) → p ≤ p2 → ∀ H', Bt s H H' → Src K (WordsC K) H' s dx c bs p2 → Q (.int ((n : Nat) : Int)) H')
theorem ok_read_number (T : Txt w K mg) (u_byte_at : Cal P w K mg base CX0 1 "byte_at" p_byte_at (spByteAt K)) (u_is_digit : Cal P w K mg base CX0 1 "is_digit" p_is_digit spDig) (q_Fault : Exq P w K mg base 1 "Fault" p_Fault_init (spErr2 K "Fault")) (u_behind_digits : Cal P w K mg base CX0 2 "behind_digits" p_behind_digits (spBehind isDigit K)) (u_number_of : Cal P w K mg base CX0 1 "number_of" p_number_of (spNum K)) : Cal P w K mg base (L2.CX P w) 3 "read_number" p_read_number (spNumber K) := by
  refine T.d_read_number.cal sc_read_number (fun vs H Q E h => by obtain ⟨_, _, _, _, _, rfl, _⟩ := h; rfl) ?_
  intro cdv A outer s0 H vs Q E hr h
  have nd := sc_read_number.nd
  have tk := tkX (P := P) (w := w) (K := K) (mg := mg) (base := base) (N := n_read_number) (q := "read_number") (sc := defScope s_read_number) (f := He.ga K "read_number") (cdv := cdv) (A := A) (outer := outer) (s := s0) (H := H) (E := E)
  have pX := paX (P := P) (w := w) (K := K) (mg := mg) (base := base) (N := n_read_number) (q := "read_number") (sc := defScope s_read_number) (f := He.ga K "read_number") (cdv := cdv) (A := A) (outer := outer) (s := s0) (H := H) (E := E)
  have po := poX (CX := L2.CX P w) (P := P) (w := w) (K := K) (mg := mg) (base := base) (N := n_read_number) (q := "read_number") (sc := defScope s_read_number) (f := He.ga K "read_number") (cdv := cdv) (A := A) (outer := outer) (s := s0) (H := H) (E := E)
  have h_byte_at : Room (1) _ := hr.mono (by omega)
  have h_is_digit : Room (1) _ := hr.mono (by omega)
  have h_Fault : Room (2) _ := hr.mono (by omega)
  have h_behind_digits : Room (2) _ := hr.mono (by omega)
  have h_number_of : Room (1) _ := hr.mono (by omega)
  refine ⟨_, (pss_cons (ps_set (i := 1) nd rfl (Or.inl rfl) (pe_fld (pv 0) rfl))
      (pss_cons (ps_if (pt_not (pt_val (pe_cal u_is_digit (h_is_digit) (p0X (E := E0)) (pa_cons (pe_cal u_byte_at (h_byte_at) (p0X (E := E0)) (pa_cons (pv 0) (pa_cons (pv 1) pa_nil))) pa_nil)))) (pss_one (ps_raise rfl tk (pmk_exq q_Fault (h_Fault) (by exact (pa_cons pe_int (pa_cons (pv 1) pa_nil)))))) pss_nil)
      (pss_cons (ps_fld (pv 0) (pe_cal u_behind_digits (h_behind_digits) (p0X (E := E0)) (pa_cons (pe_fld (pv 0) rfl) (pa_cons (pv 1) (pa_cons (pe_callB call_len_seq (by rfl) T.f_len PySem.boot_len (pa_cons (pe_fld (pv 0) rfl) pa_nil)) pa_nil)))) rfl)
      (pss_cons (ps_set (i := 2) nd rfl (Or.inl rfl) (pe_slice sl_list (pe_fld (pv 0) rfl) (po_some (pv 1)) (po_some (pe_fld (pv 0) rfl))))
      (pss_cons (ps_if (PW.pt (pw_or (pt_cmpR op_gt (pe_callB call_len_seq (by rfl) T.f_len PySem.boot_len (pa_cons (pv 2) pa_nil)) pe_int (nomark _)) (pw_or1 (PW.pt (pw_and (pt_cmpR op_eq (pe_ix ix_list (pv 2) pe_int (fun _ _ => rfl)) pe_int (nomark _)) (pw_and1 (pt_cmpR op_gt (pe_callB call_len_seq (by rfl) T.f_len PySem.boot_len (pa_cons (pv 2) pa_nil)) pe_int (nomark _)))))))) (pss_one (ps_raise rfl tk (pmk_exq q_Fault (h_Fault) (by exact (pa_cons pe_int (pa_cons (pv 1) pa_nil)))))) pss_nil)
      (pss_one (ps_ret (pe_cal u_number_of (h_number_of) (p0X (E := E0)) (pa_cons (pv 2) pa_nil))))))))), ?_⟩
  try dsimp only [cxOf]
  clear h_number_of h_behind_digits h_Fault h_is_digit h_byte_at po pX tk nd
  obtain ⟨s, dx, c, bs, p, rfl, S, kE, kO⟩ := h
  have hle := S.le
  walk_at "rd"
  refine ⟨s, dx, c, bs, p, p, rfl, S, byI bs p, by rw [by_VI]; rfl, fun H1 s1 => ?_⟩
  have S1 := S.same s1
  walk_at "rd"
  refine iteB (fun c1 => ?_) fun c1 => ?_
  · walk_at "rd"
    exact raise2 fun a H' sa _ ha => kE (10, p) (num_nil (dd_nil (ndt c1))) a H' (.same fun b o y => sa _ _ (s1 _ _ y)) ha
  · obtain ⟨g, r, hg, hd, hgd⟩ := dd_cons (ndf c1)
    have hne : dd bs p ≠ [] := by rw [hd]; simp
    have hall : ∀ x ∈ dd bs p, isDigit x = true := all_take
    have hlen : (dd bs p).length ≤ bs.length - p := by
      have := tw_len isDigit (bs.drop p)
      rw [List.length_drop] at this
      exact this
    walk_at "rd"
    rw [List.length_map]
    refine ⟨c, bs, p, bs.length, rfl, S1.sq, hle, Nat.le_refl _, fun H2 s2 => ?_⟩
    rw [List.take_length, show ((bs.drop p).takeWhile isDigit).length = (dd bs p).length from rfl]
    have S2 := S1.same s2
    walk_at "rd"
    have S3 := S2.put (j := p + (dd bs p).length) (fs := putF "at" (.int ((p + (dd bs p).length : Nat) : Int)) (srcF c p)) rfl (by omega)
    have B3 : Bt s H (upd H2 s (.ins (WordsC K) dx (putF "at" (.int ((p + (dd bs p).length : Nat) : Int)) (srcF c p)))) := (Bt.same fun b o y => s2 _ _ (s1 _ _ y)).put
    generalize upd H2 s (.ins (WordsC K) dx (putF "at" (.int ((p + (dd bs p).length : Nat) : Int)) (srcF c p))) = H3 at *
    walk_at "rd"
    refine ⟨c, _, rfl, S3.sq, ?_⟩
    refine fun p4 hp_ => ?_
    generalize hH_ : upd H3 p4 _ = H4
    have s4 := new_same hH_ hp_
    have hp4 := lst_at hH_
    rw [cutB (by omega), show (bs.drop p).take (dd bs p).length = dd bs p from pre_take _] at hp4
    clear hH_
    have S4 := S3.same s4
    have B4 := B3.trans (.same s4)
    have h0 : ((dd bs p).map bv)[0]? = some (bv g) := by rw [hd]; rfl
    have hhd : (dd bs p).head? = some g := by rw [hd]; rfl
    have fail : (dd bs p ≠ [48] ∧ ((dd bs p).head? = some 48 ∨ 1000 ≤ valueOf (dd bs p))) → (tMkO (He.ga K (Str.ofString "Fault")) (spErr2 K (Str.ofString "Fault")) [] (tCons (tC (V.int 2)) (tCons (tVar 1) tNil)) [some (.ref s), some (.int (p : Int)), some (.ref p4)] H4 fun cls d H' => E cls d H') := fun z =>
      ⟨_, rfl, raise2 fun a H' sa _ ha => kE (2, p) (num_bad hne z) a H' (B4.trans (.same sa)) ha⟩
    have good : ¬ (dd bs p ≠ [48] ∧ ((dd bs p).head? = some 48 ∨ 1000 ≤ valueOf (dd bs p))) → (dd bs p).length ≤ 3 → tRet (tCall (spNum K) [] E0 (tCons (tVar 2) tNil)) { nx := fun x H' => Q V.non H', rt := Q } [some (.ref s), some (.int (p : Int)), some (.ref p4)] H4 := fun z h3 =>
      ⟨_, rfl, p4, _, rfl, SqL.of hp4, hall, h3, fun H5 s5 => kO _ _ (num_good hne z) (by omega) H5 (B4.trans (.same s5)) (S4.same s5)⟩
    have n48 : g ≠ 48 → ((dd bs p).head? ≠ some 48) := fun z y => by
      rw [hhd] at y
      injection y with y
      exact z y
    walk_at "rd"
    rw [List.length_map]
    refine iteB (fun c2 => ?_) fun c2 => ?_
    · refine fail ⟨fun y => ?_, ?_⟩
      · rw [y] at c2
        exact absurd c2 (by decide)
      · by_cases z : g = 48
        · exact .inl (by rw [hhd, z])
        · refine .inr ?_
          have := (dig_len hall (n48 z) hne)
          have := of_decide_eq_true c2
          omega
    · have l3 : (dd bs p).length ≤ 3 := by
        have := of_decide_eq_false c2
        omega
      walk_at "rd"
      refine iteB (fun c3 => ?_) fun c3 => ?_
      · have c3' : g = 48 := bv_48.mp (of_decide_eq_true c3)
        walk_at "rd"
        rw [List.length_map]
        refine iteB (fun c4 => ?_) fun c4 => ?_
        · refine fail ⟨fun y => ?_, .inl (by rw [hhd, c3'])⟩
          rw [y] at c4
          exact absurd c4 (by decide)
        · refine good (fun y => y.1 ?_) l3
          have h1 : (dd bs p).length = 1 := by
            have := of_decide_eq_false c4
            rw [hd] at this ⊢
            rw [List.length_cons] at this ⊢
            omega
          rw [hd] at h1 ⊢
          rw [List.length_cons] at h1
          rw [c3', List.eq_nil_of_length_eq_zero (by omega : r.length = 0)]
      · have c3' : g ≠ 48 := fun z => of_decide_eq_false c3 (bv_48.mpr z)
        refine good (fun y => ?_) l3
        rcases y.2 with z | z
        · exact n48 c3' z
        · have := (dig_len hall (n48 c3') hne).mpr l3
          omega
theorem mark_err {bs : List UInt8} {p : Nat} {e : ShBlazon.Fault} (h : number (Lf bs p) = .error e) : markIn (Lf bs p) = .error e := by unfold markIn; rw [h]
theorem mark_point {bs : List UInt8} {p p1 g : Nat} (h : number (Lf bs p) = .ok (g, Lf bs p1)) (hp : bs[p1]? ≠ some 46) : markIn (Lf bs p) = .error (10, p1) := by
  unfold markIn
  rw [h]
  unfold Lf
  cases e : bs.drop p1 with
  | nil => rfl
  | cons x r =>
    dsimp only
    split
    · rename_i r' e2
      injection e2 with e2 e3
      exact absurd (drop_get.mpr ⟨r, by rw [e, e2]⟩) hp
    · rfl
theorem mark_two {bs : List UInt8} {p p1 g : Nat} (h : number (Lf bs p) = .ok (g, Lf bs p1)) (hp : bs[p1]? = some 46) : markIn (Lf bs p) = match number (Lf bs (p1 + 1)) with
    | .error e => .error e
    | .ok k => if markFine (g, k.1) = true then .ok ((g, k.1), k.2) else .error (11, p) := by
  obtain ⟨r, hr⟩ := drop_get.mp hp
  unfold markIn
  rw [h]
  unfold Lf
  dsimp only
  rw [hr]
  rw [drop_next hr]
  rfl
theorem num_dig {bs : List UInt8} {p : Nat} {x : Nat × Left} (h : number (Lf bs p) = .ok x) : digN (byI bs p) = true := by
  cases q : digN (byI bs p) with
  | true => rfl
  | false => rw [num_nil (dd_nil q)] at h; cases h
def MkOk (x : Nat × Nat) : Prop := x.1 ≤ 127 ∧ 1 ≤ x.2 ∧ x.2 ≤ 255
def spMark (K : PySem.W.Frag) : Sp := fun vs H Q E => ∃ (s dx c : Addr) (bs : List UInt8) (p : Nat), vs = [.ref s] ∧ Src K (WordsC K) H s dx c bs p ∧ (∀ e, markIn (Lf bs p) = .error e → FlW K s H E e) ∧
  (∀ x p2, markIn (Lf bs p) = .ok (x, Lf bs p2) → p ≤ p2 → ∀ v H', Bt s H H' → Src K (WordsC K) H' s dx c bs p2 → IsMark (Dn H H') v x → MkOk x → Q v H')
theorem ok_read_mark (T : Txt w K mg) (u_read_number : Cal P w K mg base (L2.CX P w) 3 "read_number" p_read_number (spNumber K)) (u_byte_at : Cal P w K mg base CX0 1 "byte_at" p_byte_at (spByteAt K)) (q_Fault : Exq P w K mg base 1 "Fault" p_Fault_init (spErr2 K "Fault")) : Cal P w K mg base (L2.CX P w) 4 "read_mark" p_read_mark (spMark K) := by
  refine T.d_read_mark.cal sc_read_mark (fun vs H Q E h => by obtain ⟨_, _, _, _, _, rfl, _⟩ := h; rfl) ?_
  intro cdv A outer s0 H vs Q E hr h
  have nd := sc_read_mark.nd
  have tk := tkX (P := P) (w := w) (K := K) (mg := mg) (base := base) (N := n_read_mark) (q := "read_mark") (sc := defScope s_read_mark) (f := He.ga K "read_mark") (cdv := cdv) (A := A) (outer := outer) (s := s0) (H := H) (E := E)
  have pX := paX (P := P) (w := w) (K := K) (mg := mg) (base := base) (N := n_read_mark) (q := "read_mark") (sc := defScope s_read_mark) (f := He.ga K "read_mark") (cdv := cdv) (A := A) (outer := outer) (s := s0) (H := H) (E := E)
  have po := poX (CX := L2.CX P w) (P := P) (w := w) (K := K) (mg := mg) (base := base) (N := n_read_mark) (q := "read_mark") (sc := defScope s_read_mark) (f := He.ga K "read_mark") (cdv := cdv) (A := A) (outer := outer) (s := s0) (H := H) (E := E)
  have h_read_number : Room (3) _ := hr.mono (by omega)
  have h_byte_at : Room (1) _ := hr.mono (by omega)
  have h_Fault : Room (2) _ := hr.mono (by omega)
  refine ⟨_, (pss_cons (ps_set (i := 1) nd rfl (Or.inl rfl) (pe_fld (pv 0) rfl))
      (pss_cons (ps_set (i := 2) nd rfl (Or.inl rfl) (pe_cal u_read_number (h_read_number) pX (pa_cons (pv 0) pa_nil)))
      (pss_cons (ps_if (pt_cmpR op_ne (pe_cal u_byte_at (h_byte_at) (p0X (E := E0)) (pa_cons (pv 0) (pa_cons (pe_fld (pv 0) rfl) pa_nil))) (pe_gi T.i_POINT) (nomark _)) (pss_one (ps_raise rfl tk (pmk_exq q_Fault (h_Fault) (by exact (pa_cons pe_int (pa_cons (pe_fld (pv 0) rfl) pa_nil)))))) pss_nil)
      (pss_cons (ps_fld (pv 0) (pe_op op_add (pe_fld (pv 0) rfl) pe_int) rfl)
      (pss_cons (ps_set (i := 3) nd rfl (Or.inl rfl) (pe_cal u_read_number (h_read_number) pX (pa_cons (pv 0) pa_nil)))
      (pss_cons (ps_if (PW.pt (pw_or (pt_cmpR op_gt (pv 2) pe_int (nomark _)) (pw_or1 (pt_not (pt_chain op_le op_le pe_int (pv 3) pe_int))))) (pss_one (ps_raise rfl tk (pmk_exq q_Fault (h_Fault) (by exact (pa_cons pe_int (pa_cons (pv 1) pa_nil)))))) pss_nil)
      (pss_one (ps_ret (pe_tup (pa_cons (pv 2) (pa_cons (pv 3) pa_nil))))))))))), ?_⟩
  try dsimp only [cxOf]
  clear h_Fault h_byte_at h_read_number po pX tk nd
  obtain ⟨s, dx, c, bs, p, rfl, S, kE, kO⟩ := h
  walk_at "rd"
  refine ⟨s, dx, c, bs, p, rfl, S, fun e he => kE e (mark_err he), fun g p1 he hp1 H1 b1 S1 => ?_⟩
  walk_at "rd"
  refine ⟨s, dx, c, bs, p1, p1, rfl, S1, ?_⟩
  refine ⟨by rw [by_VI]; rfl, _, rfl, ?_⟩
  refine iteB (fun c1 => ?_) fun c1 => ?_
  · have c1' : bs[p1]? ≠ some 46 := fun z => by
      rw [decide_eq_true (show byV bs p1 = V.int 46 from by_sign.mpr z)] at c1
      cases c1
    walk_at "rd"
    exact raise2 fun a H' sa _ ha => kE (10, p1) (mark_point he c1') a H' (b1.trans (.same sa)) ha
  · have c1' : bs[p1]? = some 46 := by_sign.mp (show byV bs p1 = V.int 46 from of_decide_eq_true (ndf c1))
    have hlt := (List.getElem?_eq_some_iff.mp c1').1
    have em := mark_two he c1'
    walk_at "rd"
    have S2 := S1.put (j := p1 + 1) (fs := putF "at" (.int (((p1 : Nat) : Int) + 1)) (srcF c p1)) rfl (by omega)
    refine ⟨s, dx, c, bs, p1 + 1, rfl, S2, fun e he2 => (kE e (by rw [em, he2])).bt b1.put, fun k p2 he2 hp2 H3 b3 S3 => ?_⟩
    have B3 := b1.put.trans b3
    rw [he2] at em
    dsimp only at em
    have bad : ¬ MkOk (g, k) → (tMkO (He.ga K (Str.ofString "Fault")) (spErr2 K (Str.ofString "Fault")) [] (tCons (tC (V.int 11)) (tCons (tVar 1) tNil)) [some (.ref s), some (.int (p : Int)), some (.int (g : Int)), some (.int (k : Int))] H3 fun cls d H' => E cls d H') := fun z =>
      ⟨_, rfl, raise2 fun a H' sa _ ha => kE (11, p) (by
        rw [em, if_neg]
        intro y
        unfold markFine at y
        simp only [Bool.and_eq_true, decide_eq_true_eq] at y
        exact z ⟨by omega, by omega, by omega⟩) a H' (B3.trans (.same sa)) ha⟩
    walk_at "rd"
    refine iteB (fun c2 => ?_) fun c2 => ?_
    · refine bad fun z => ?_
      have y := of_decide_eq_true c2
      have := z.1
      dsimp only at this
      omega
    · have c2' := of_decide_eq_false c2
      walk_at "rd"
      refine iteB (fun c3 => ?_) fun c3 => ?_
      · have c3' := of_decide_eq_true c3
        walk_at "rd"
        show if (!decide ((k : Int) ≤ 255)) = true then _ else _
        refine iteB (fun c4 => bad fun z => ?_) fun c4 => ?_
        · have y := of_decide_eq_false (ndt c4)
          have := z.2.2
          dsimp only at this
          omega
        · have c4' := of_decide_eq_true (ndf c4)
          have ok : MkOk (g, k) := ⟨by show g ≤ 127; omega, by show 1 ≤ k; omega, by show k ≤ 255; omega⟩
          refine ⟨_, rfl, _, rfl, by show 2 ≤ sizeLine; decide, fun t ht => ?_⟩
          refine kO (g, k) p2 ?_ (by omega) _ _ (B3.new ht) (S3.same (Hc.Same.new (Same.refl _) ht)) ⟨t, rfl, dn_of (B3.none S3.ob t ht) upd_same⟩ ok
          rw [em, if_pos]
          unfold markFine
          simp only [Bool.and_eq_true, decide_eq_true_eq]
          omega
      · refine ⟨_, rfl, ?_⟩
        refine iteB (fun _ => bad fun z => ?_) fun c4 => (by cases c4)
        have y := of_decide_eq_false c3
        have := z.2.1
        dsimp only at this
        omega
theorem marksG_err {bs : List UInt8} {p : Nat} {e : ShBlazon.Fault} (h : markIn (Lf bs (sk bs p)) = .error e) : marksG (Lf bs p) = .error e := by
  unfold marksG
  have ed : digitNext (Lf bs p) = digN (byI bs (sk bs p)) := (digit_next bs p).trans (dig_at bs (sk bs p)).symm
  cases q : digN (byI bs (sk bs p)) with
  | true =>
    rw [q] at ed
    rw [show MARKS = 59 + 1 from rfl, marks_s ed, skip_L, h]
  | false =>
    rw [q] at ed
    rw [marks_no ed, skip_L]
    rw [mark_err (num_nil (dd_nil q))] at h
    injection h with h
    rw [← h]
    rfl
theorem mark_dig {bs : List UInt8} {p : Nat} {x : (Nat × Nat) × Left} (h : markIn (Lf bs p) = .ok x) : digN (byI bs p) = true := by
  cases q : digN (byI bs p) with
  | true => rfl
  | false => rw [mark_err (num_nil (dd_nil q))] at h; cases h
theorem marks_turn {bs : List UInt8} {p n : Nat} {x : (Nat × Nat) × Left} (h : markIn (Lf bs (sk bs p)) = .ok x) : marksIn (n + 1) (Lf bs p) = match marksIn n x.2 with
    | .error e => .error e
    | .ok l => .ok (x.1 :: l.1, l.2) := by
  have ed : digitNext (Lf bs p) = digN (byI bs (sk bs p)) := (digit_next bs p).trans (dig_at bs (sk bs p)).symm
  rw [mark_dig h] at ed
  have z := marks_s (n := n) ed
  rw [skip_L, h] at z
  exact z
theorem marks_on {bs : List UInt8} {p n p1 : Nat} {y : Nat × Nat} (h : markIn (Lf bs (sk bs p)) = .ok (y, Lf bs p1)) : onW (marksIn (n + 1) (Lf bs p)) (marksIn n (Lf bs p1)) [y] := by
  unfold onW
  rw [marks_turn h]
  cases marksIn n (Lf bs p1) <;> rfl
theorem marksG_bad {bs : List UInt8} {p : Nat} {e : ShBlazon.Fault} (h : marksIn 60 (Lf bs p) = .error e) : marksG (Lf bs p) = .error e := by
  unfold marksG
  rw [show MARKS = 60 from rfl, h]
theorem marksG_ok {bs : List UInt8} {p : Nat} {ls : List (Nat × Nat)} {t : Left} (h : marksIn 60 (Lf bs p) = .ok (ls, t)) (hl : 1 ≤ ls.length) : marksG (Lf bs p) = .ok (ls, t) := by
  unfold marksG
  rw [show MARKS = 60 from rfl, h]
  dsimp only
  rw [if_neg]
  cases ls with
  | nil => simp at hl
  | cons _ _ => simp
/-- the coat's marks are read into its list -/
def spMarks (K : PySem.W.Frag) : Sp := fun vs H Q E => ∃ (s dx c : Addr) (bs : List UInt8) (p0 p : Nat) (x dxc ml cl : Addr) (av cv : V), vs = [.ref s, .ref x] ∧ Src K (WordsC K) H s dx c bs p ∧ sk bs p = sk bs p0 ∧ H x = some (.ins (He.ga K "Coat") dxc (coaF 0 av cv ml cl)) ∧ H ml = some (.lst []) ∧ (∀ H', BtM [s, ml] H H' → SqL K H' c (bs.map bv)) ∧
  (∀ e, marksG (Lf bs p0) = .error e → ∀ (d : Addr) H', BtM [s, ml] H H' → H' d = some (.xd [("place", .int ((e.2 : Nat) : Int)), ("kind", .int ((e.1 : Nat) : Int))]) → E (.ref (He.ga K "Fault")) (some d) H') ∧
  (∀ ls p2, marksG (Lf bs p0) = .ok (ls, Lf bs p2) → p0 ≤ p2 → ∀ H' p3 us, sk bs p3 = sk bs p2 → BtM [s, ml] H H' → Src K (WordsC K) H' s dx c bs p3 → H' ml = some (.lst us) → Paired (IsMark (Dn H H')) us ls → ls.length ≤ 60 → (∀ y ∈ ls, MkOk y) → Q .non H')
theorem ok_read_marks (T : Txt w K mg) (u_pass_blanks : Cal P w K mg base CX0 3 "pass_blanks" p_pass_blanks (spBlanks K)) (u_read_mark : Cal P w K mg base (L2.CX P w) 4 "read_mark" p_read_mark (spMark K)) (u_is_digit : Cal P w K mg base CX0 1 "is_digit" p_is_digit spDig) (q_Fault : Exq P w K mg base 1 "Fault" p_Fault_init (spErr2 K "Fault")) : Cal P w K mg base (L2.CX P w) 5 "read_marks" p_read_marks (spMarks K) := by
  refine T.d_read_marks.cal sc_read_marks (fun vs H Q E h => by obtain ⟨_, _, _, _, _, _, _, _, _, _, _, _, rfl, _⟩ := h; rfl) ?_
  intro cdv A outer s0 H vs Q E hr h
  have nd := sc_read_marks.nd
  have tk := tkX (P := P) (w := w) (K := K) (mg := mg) (base := base) (N := n_read_marks) (q := "read_marks") (sc := defScope s_read_marks) (f := He.ga K "read_marks") (cdv := cdv) (A := A) (outer := outer) (s := s0) (H := H) (E := E)
  have pX := paX (P := P) (w := w) (K := K) (mg := mg) (base := base) (N := n_read_marks) (q := "read_marks") (sc := defScope s_read_marks) (f := He.ga K "read_marks") (cdv := cdv) (A := A) (outer := outer) (s := s0) (H := H) (E := E)
  have po := poX (CX := L2.CX P w) (P := P) (w := w) (K := K) (mg := mg) (base := base) (N := n_read_marks) (q := "read_marks") (sc := defScope s_read_marks) (f := He.ga K "read_marks") (cdv := cdv) (A := A) (outer := outer) (s := s0) (H := H) (E := E)
  have h_pass_blanks : Room (3) _ := hr.mono (by omega)
  have h_read_mark : Room (4) _ := hr.mono (by omega)
  have h_is_digit : Room (1) _ := hr.mono (by omega)
  have h_Fault : Room (2) _ := hr.mono (by omega)
  refine ⟨_, (pss_cons (ps_expr (pe_cal u_pass_blanks (h_pass_blanks) (p0X (E := E0)) (pa_cons (pv 0) pa_nil)))
      (pss_cons (ps_expr (pe_bm PySem.F.plainAttrs_list PySem.F.slot_list_append PySem.F.type_list_append mt_append (pe_fld (pv 1) rfl) (pa_cons (pe_cal u_read_mark (h_read_mark) pX (pa_cons (pv 0) pa_nil)) pa_nil)))
      (pss_one (ps_while po (pt_val (pe_cal u_is_digit (h_is_digit) (p0X (E := E0)) (pa_cons (pe_cal u_pass_blanks (h_pass_blanks) (p0X (E := E0)) (pa_cons (pv 0) pa_nil)) pa_nil))) (pss_cons (ps_if (pt_cmpR op_eq (pe_callB call_len_seq (by rfl) T.f_len PySem.boot_len (pa_cons (pe_fld (pv 1) rfl) pa_nil)) (pe_gi T.i_MOST_MARKS) (nomark _)) (pss_one (ps_raise rfl tk (pmk_exq q_Fault (h_Fault) (by exact (pa_cons pe_int (pa_cons (pe_fld (pv 0) rfl) pa_nil)))))) pss_nil)
      (pss_one (ps_expr (pe_bm PySem.F.plainAttrs_list PySem.F.slot_list_append PySem.F.type_list_append mt_append (pe_fld (pv 1) rfl) (pa_cons (pe_cal u_read_mark (h_read_mark) pX (pa_cons (pv 0) pa_nil)) pa_nil))))))))), ?_⟩
  try dsimp only [cxOf]
  clear h_Fault h_is_digit h_read_mark h_pass_blanks po pX tk nd
  obtain ⟨s, dx, c, bs, p0, p, x, dxc, ml, cl, av, cv, rfl, S, ep, hx, hm, keep, kE, kO⟩ := h
  have xs : x ≠ s := fun z => by
    rw [z, S.ob] at hx
    injection hx with hx
    injection hx with _ _ hx
    have q1 : (("some" : Str), V.ref c) = (("kind" : Str), iv 0) := (List.cons.inj hx).1
    exact absurd (show ("some" : Str) = "kind" from congrArg Prod.fst q1) (by decide +kernel)
  have ms : ml ≠ s := ne_of hm S.ob (by intro z; cases z)
  have xm : x ≠ ml := ne_of hx hm (by intro z; cases z)
  walk_at "rd"
  refine ⟨s, dx, c, bs, p, rfl, S, fun H1 b1 S1 => ?_⟩
  rw [ep] at S1
  have hx1 := b1 _ _ xs hx
  have hm1 := b1 _ _ ms hm
  walk_at "rd"
  refine ⟨.inl ⟨rfl, _, SqL.of hm1⟩, ?_⟩
  refine ⟨_, rfl, s, dx, c, bs, sk bs p0, rfl, S1, fun e he d H' b' hd => kE e (marksG_err he) d H' (.of (b1.trans b') (by simp)) hd, fun y p1 he hp1 v H2 b2 S2 isM ok => ?_⟩
  have hm2 := b2 _ _ ms hm1
  refine ⟨ml, [], _, rfl, rfl, hm2, by show 0 < sizeLine; decide, ?_⟩
  have H1M : H1 ml ≠ none := by rw [hm1]; simp
  have P3 : Paired (IsMark (Dn H (upd H2 ml (.lst ([] ++ [v]))))) [v] [y] := .cons (IsTwo.up (dn_mono (b1.none S1.ob) fun a o n h => by
    rw [upd_ne (fun z => by rw [z] at n; exact H1M n)]
    exact h) isM) .nil
  have F3 : BtM [s, ml] H (upd H2 ml (.lst ([] ++ [v]))) := (BtM.of (b1.trans b2) (by simp)).put (by simp)
  have S3 : Src K (WordsC K) (upd H2 ml (.lst ([] ++ [v]))) s dx c bs p1 := ⟨(upd_ne (Ne.symm ms)).trans S2.ob, keep _ F3, S2.le, S2.big⟩
  have hm3 : upd H2 ml (.lst ([] ++ [v])) ml = some (.lst [v]) := upd_same
  have on3 : onW (marksIn 60 (Lf bs p0)) (marksIn 59 (Lf bs p1)) [y] := marks_on he
  have hp01 : p0 ≤ p1 := Nat.le_trans (sk_ge bs p0) hp1
  show tWhile _ _ _ _ (upd H2 ml (.lst ([] ++ [v])))
  generalize upd H2 ml (.lst ([] ++ [v])) = H3 at *
  clear isM H1M hm2 S2 b2 hm1 S1 b1 hx1
  refine ⟨fun m σ H' => ∃ (us : List V) (ls : List (Nat × Nat)) (pi p' : Nat), σ = [some (.ref s), some (.ref x)] ∧ BtM [s, ml] H H' ∧ Src K (WordsC K) H' s dx c bs p' ∧ sk bs p' = sk bs pi ∧ H' ml = some (.lst us) ∧ Paired (IsMark (Dn H H')) us ls ∧ 1 ≤ ls.length ∧ ls.length ≤ 60 ∧
    (∀ y ∈ ls, MkOk y) ∧ p0 ≤ pi ∧ onW (marksIn 60 (Lf bs p0)) (marksIn (60 - ls.length) (Lf bs pi)) ls ∧ m = 60 - ls.length, ⟨_, [v], [y], p1, p1, rfl, F3, S3, rfl, hm3, P3, Nat.le_refl 1, Nat.le_of_ble_eq_true rfl, fun z hz => by rw [List.mem_singleton.mp hz]; exact ok, hp01, (by rw [show 60 - [y].length = 59 from rfl]; exact on3), rfl⟩, ?_⟩
  clear P3 F3 S3 hm3 on3
  rintro m σ H4 ⟨us, ls, pi, p', rfl, F4, S4, ep4, hm4, P4, l1, l60, ok4, hp4, on4, rfl⟩
  have GM : ∀ m ∈ [s, ml], H m ≠ none := fun m hm' => by
    rcases List.mem_cons.mp hm' with q | hm'
    · rw [q, S.ob]; simp
    · rw [List.mem_singleton.mp hm', hm]; simp
  walk_at "rd"
  refine ⟨s, dx, c, bs, p', rfl, S4, fun H5 b5 S5 => ?_⟩
  rw [ep4] at S5 ⊢
  refine ⟨byI bs (sk bs pi), by rw [by_VI]; rfl, fun H6 s6 => ?_⟩
  have S6 := S5.same s6
  have b6 : Bt s H4 H6 := b5.trans (.same s6)
  have F6 : BtM [s, ml] H H6 := F4.trans (.of b6 (by simp))
  have hm6 := b6 _ _ ms hm4
  have hx6 : H6 x = some (.ins (He.ga K "Coat") dxc (coaF 0 av cv ml cl)) := F6 _ _ (by simp [xs, xm]) hx
  have P6 : Paired (IsMark (Dn H H6)) us ls := Paired.up P4 fun _ _ z => IsTwo.up ((BtM.of b6 (M := [s, ml]) (by simp)).dn GM) z
  have ed : digitNext (Lf bs pi) = digN (byI bs (sk bs pi)) := (digit_next bs pi).trans (dig_at bs (sk bs pi)).symm
  refine ⟨_, rfl, ?_⟩
  refine iteB (fun c1 => ?_) fun c1 => ?_
  · rw [c1] at ed
    refine ⟨fun σ' H' => ∃ (us : List V) (ls' : List (Nat × Nat)) (pi p' : Nat), ls.length < ls'.length ∧ σ' = [some (.ref s), some (.ref x)] ∧ BtM [s, ml] H H' ∧ Src K (WordsC K) H' s dx c bs p' ∧ sk bs p' = sk bs pi ∧ H' ml = some (.lst us) ∧ Paired (IsMark (Dn H H')) us ls' ∧ 1 ≤ ls'.length ∧ ls'.length ≤ 60 ∧
      (∀ y ∈ ls', MkOk y) ∧ p0 ≤ pi ∧ onW (marksIn 60 (Lf bs p0)) (marksIn (60 - ls'.length) (Lf bs pi)) ls', ?_, ?_⟩
    · rintro σ' H' ⟨us, ls', pi, p', h0, h1, h2, h3, h4, h5, h6, h7, h8, h9, h10, h11⟩
      exact ⟨60 - ls'.length, by omega, us, ls', pi, p', h1, h2, h3, h4, h5, h6, h7, h8, h9, h10, h11, rfl⟩
    have eln : us.length = ls.length := P4.length
    walk_at "rd"
    refine iteB (fun c2 => ?_) fun c2 => ?_
    · have c2' : ls.length = 60 := by
        have z : V.int ((us.length : Nat) : Int) = V.int 60 := of_decide_eq_true c2
        injection z with z
        omega
      walk_at "rd"
      refine raise2 fun a H' sa _ ha => kE (12, sk bs pi) (marksG_bad (on4.err ?_)) a H' (F6.trans (.same sa)) ha
      rw [c2']
      show marksIn 0 _ = _
      rw [marks_0, if_pos ed, skip_L]
      rfl
    · have c2' : ls.length < 60 := by
        have z : ¬ us.length = 60 := fun y => of_decide_eq_false c2 (by rw [y]; rfl)
        omega
      have en : 60 - ls.length = (60 - (ls.length + 1)) + 1 := by omega
      walk_at "rd"
      refine ⟨.inl ⟨rfl, _, SqL.of hm6⟩, ?_⟩
      refine ⟨_, rfl, s, dx, c, bs, sk bs pi, rfl, S6, fun e he d H' b' hd => kE e (marksG_bad (on4.err ?_)) d H' (F6.trans (.of b' (by simp))) hd, fun y p1 he hp1 v H7 b7 S7 isM ok => ?_⟩
      · rw [en, marks_s ed, skip_L, he]
      have hm7 := b7 _ _ ms hm6
      refine ⟨ml, us, _, rfl, rfl, hm7, Nat.lt_of_le_of_lt (show us.length ≤ 60 by omega) (by decide), ?_⟩
      have F8 : BtM [s, ml] H6 (upd H7 ml (.lst (us ++ [v]))) := (BtM.of b7 (by simp)).put (by simp)
      have S8 : Src K (WordsC K) (upd H7 ml (.lst (us ++ [v]))) s dx c bs p1 := ⟨(upd_ne (Ne.symm ms)).trans S7.ob, keep _ (F6.trans F8), S7.le, S7.big⟩
      refine ⟨us ++ [v], ls ++ [y], p1, p1, ?_, rfl, F6.trans F8, S8, rfl, upd_same, ?_, ?_, ?_, ?_, ?_, ?_⟩
      · rw [List.length_append]
        exact Nat.lt_succ_self _
      · refine Paired.snoc (Paired.up P6 fun _ _ z => IsTwo.up (F8.dn GM) z) (IsTwo.up (dn_mono (F6.none fun m hm' => ?_) fun a o n h => ?_) isM)
        · rcases List.mem_cons.mp hm' with q | hm'
          · rw [q, S6.ob]; simp
          · rw [List.mem_singleton.mp hm', hm6]; simp
        · rw [upd_ne (fun z => by rw [z, hm6] at n; cases n)]
          exact h
      · rw [List.length_append]
        exact Nat.le_add_left ..
      · rw [List.length_append]
        exact c2'
      · intro z hz
        rcases List.mem_append.mp hz with hz | hz
        · exact ok4 z hz
        · rw [List.mem_singleton.mp hz]
          exact ok
      · have := sk_ge bs pi
        omega
      · rw [List.length_append]
        show onW _ (marksIn (60 - (ls.length + 1)) (Lf bs p1)) _
        refine on4.turn ?_
        rw [en, marks_turn he]
        cases marksIn (60 - (ls.length + 1)) (Lf bs p1) <;> rfl
  · rw [c1] at ed
    exact kO ls pi (marksG_ok (on4.ok (marks_no ed)) l1) hp4 H6 (sk bs pi) us (sk_sk bs pi) F6 S6 hm6 P6 l60 ok4
end
end Hc

namespace Hc
open PySem PySem.Spec PyProof.Rows L2
open Sh ShMarsh ShBlazon
set_option hygiene false
local macro_rules | `(tactic| walk_at "hp") => `(tactic| first | assumption | exact Src.ob (by assumption) | exact Rdr.ob (by assumption) | exact upd_same)
local macro_rules | `(tactic| walk_at "sq") => `(tactic| first | assumption | exact Src.sq (by assumption) | exact Rdr.sq (by assumption) | exact SqL.of (by assumption) | exact SqL.of upd_same | exact SqT.of (by assumption) | exact SqT.of upd_same)
local macro_rules | `(tactic| walk_at "cl") => `(tactic| with_reducible first | exact T.c_Bytes | exact T.c_Coat | exact T.c_Arms | exact T.c_Layer | exact T.c_Token | exact T.c_Reader | exact T.c_Words)
local macro_rules | `(tactic| walk_at "na") => `(tactic| with_reducible first | exact T.n_Bytes_some | exact T.n_Bytes_at | exact T.n_Coat_kind | exact T.n_Coat_arms | exact T.n_Coat_canton | exact T.n_Coat_marks | exact T.n_Coat_coats | exact T.n_Arms_field | exact T.n_Arms_layers | exact T.n_Layer_kind | exact T.n_Layer_numbers | exact T.n_Layer_fill | exact T.n_Token_kind | exact T.n_Token_value | exact T.n_Token_place | exact T.n_Token_behind | exact T.n_Reader_some | exact T.n_Reader_at | exact T.n_Reader_end | exact T.n_Words_some | exact T.n_Words_at)
local macro_rules | `(tactic| walk_at "ai") => `(tactic| first | assumption | exact atI_nat (by assumption) | rfl)
local macro_rules | `(tactic| walk_at "rd1") => `(tactic| first
  | refine ⟨_, rfl, ?_⟩
  | refine ⟨rfl, ?_⟩
  | refine ⟨_, _, rfl, rfl, ?_⟩
  | refine ⟨_, _, _, _, _, rfl, (by walk_at "hp"), (by walk_at "cl"), (by walk_at "na"), (by rfl), ?_⟩
  | refine ⟨_, _, _, _, rfl, (by walk_at "hp"), (by walk_at "cl"), (by walk_at "na"), Nat.le_of_ble_eq_true rfl, ?_⟩
  | refine ⟨_, _, _, _, rfl, rfl, (by walk_at "sq"), (by walk_at "ai"), ?_⟩
  | refine ⟨_, _, rfl, (by first | exact Or.inl (by walk_at "sq") | exact Or.inr (by walk_at "sq")), ?_⟩
  | refine ⟨(by walk_at "ar"), ?_⟩)
local macro_rules | `(tactic| walk_at "ar") => `(tactic| first | exact (show CDiv _ _ from ⟨by decide, by decide⟩) | exact (show (0 : Int) < _ from by decide) | exact (show CMul _ _ from .inl ⟨by omega, by omega⟩) | exact (show CMul _ _ from .inr ⟨by omega, by omega⟩))
local macro_rules | `(tactic| walk_at "rd") => `(tactic| repeat walk_at "rd1")
local macro_rules | `(tactic| walk_at "fa") => `(tactic| first | exact ⟨_, rfl, (by omega), rfl⟩ | exact ⟨_, _, rfl, (by omega), rfl⟩ | exact ⟨_, _, _, rfl, (by omega), rfl⟩ | exact ⟨_, _, _, _, rfl, (by omega), rfl⟩ | exact ⟨_, _, _, _, _, rfl, (by omega), rfl⟩)
local macro_rules | `(tactic| walk_at "vr") => `(tactic| first
  | exact v_var (by rfl)
  | exact v_c
  | (apply v_i0 <;> walk_at "vr")
  | (apply v_i <;> first | walk_at "ar" | walk_at "vr")
  | (apply v_neg <;> walk_at "vr")
  | (apply v_eq <;> walk_at "vr")
  | (apply v_eqB <;> walk_at "vr")
  | (apply v_ne <;> walk_at "vr")
  | (apply v_neB <;> walk_at "vr")
  | (apply v_chain (g := fun _ _ => _) (g' := fun _ _ => _) <;> walk_at "vr")
  | (apply v_and <;> walk_at "vr")
  | (apply v_or <;> walk_at "vr")
  | (apply v_not <;> walk_at "vr")
  | (apply v_ifI <;> walk_at "vr")
  | (apply v_ifB <;> walk_at "vr")
  | (apply v_call <;> first | walk_at "fa" | walk_at "vr")
  | (apply v_abs <;> walk_at "vr")
  | (apply v_min <;> walk_at "vr")
  | exact va_nil
  | (apply va_cons <;> walk_at "vr")
  | (apply a_test <;> walk_at "vr")
  | (apply a_B <;> walk_at "vr")
  | (apply a_and <;> walk_at "vr")
  | (apply a_or <;> walk_at "vr")
  | (apply a_not <;> walk_at "vr"))
local macro_rules | `(tactic| walk_at "rs") => `(tactic| first
  | (apply r_ret; walk_at "vr")
  | (apply r_set; walk_at "vr"; walk_at "rs")
  | (apply r_ifI; walk_at "vr"; intro _; walk_at "rs"; intro _; walk_at "rs")
  | (apply r_ifB; walk_at "vr"; intro _; walk_at "rs"; intro _; walk_at "rs"))

section
variable {P : Program} {w : World} {K : PySem.W.Frag} {mg : Str → Option Value} {base : Heap}
theorem one_err {p0 : Left} {e : ShBlazon.Fault} (h : armsIn p0 = .error e) : oneIn p0 = .error e := by unfold oneIn; rw [h]
theorem one_none {p0 p1 : Left} {a : Arms} (h : armsIn p0 = .ok (a, p1)) (hw : word "augmented" p1 = none) : oneIn p0 = markedIn a none p1 := by
  unfold oneIn
  rw [h]
  dsimp only
  rw [hw]
theorem one_some {p0 p1 t : Left} {a : Arms} (h : armsIn p0 = .ok (a, p1)) (hw : word "augmented" p1 = some t) : oneIn p0 = match armsIn t with
    | .error e => .error e
    | .ok c => markedIn a (some c.1) c.2 := by
  unfold oneIn
  rw [h]
  dsimp only
  rw [hw]
  rfl
theorem lit_aug : tx (ascii "augmented") = Str.ofString "augmented" := by decide +kernel
theorem lit_mkd : tx (ascii "marked") = Str.ofString "marked" := by decide +kernel
theorem dec_lit {u : List UInt8} {x : String} (e : tx (ascii x) = Str.ofString x) : decide (tv u = V.str (Str.ofString x)) = decide (u = ascii x) := by
  rw [← e, decide_eq_decide]
  exact tv_inj
theorem len_aug : (Str.ofString "augmented").length = 9 := by decide +kernel
theorem len_mkd : (Str.ofString "marked").length = 6 := by decide +kernel
theorem BtM.sub {M M' : List Addr} {H H' : Hp} (e : BtM M H H') (h : ∀ m ∈ M, m ∈ M') : BtM M' H H' := fun b o n q => e b o (fun z => n (h b z)) q
theorem mem3 {H : Hp} {a b c : Addr} {x y z : HO} (h1 : H a = some x) (h2 : H b = some y) (h3 : H c = some z) : ∀ m ∈ [a, b, c], H m ≠ none := fun m hm => by
  rcases List.mem_cons.mp hm with q | hm
  · rw [q, h1]; simp
  rcases List.mem_cons.mp hm with q | hm
  · rw [q, h2]; simp
  · rw [List.mem_singleton.mp hm, h3]; simp
abbrev spMarkedW (K : PySem.W.Frag) : Sp := spRdW (ι := Unit) K (fun _ => []) (fun _ _ _ => True) (fun _ => oneIn) (fun _ D v m => IsCoat K D v m ∧ WfCoat m ∧ m.deep = 1)
theorem ok_read_marked (T : Txt w K mg) (m_Coat : Mak P w K mg base 1 "Coat" p_Coat_init (spI_Coat K)) (u_read_arms : Cal P w K mg base (L2.CX P w) 14 "read_arms" p_read_arms (spArmsW K)) (u_word_ahead : Cal P w K mg base CX0 4 "word_ahead" p_word_ahead (spWordA K)) (u_read_marks : Cal P w K mg base (L2.CX P w) 5 "read_marks" p_read_marks (spMarks K)) : Cal P w K mg base (L2.CX P w) 15 "read_marked" p_read_marked (spMarkedW K) := by
  refine T.d_read_marked.cal sc_read_marked (fun vs H Q E h => by obtain ⟨_, _, _, _, _, _, _, rfl, _⟩ := h; rfl) ?_
  intro cdv A outer s0 H vs Q E hr h
  have nd := sc_read_marked.nd
  have tk := tkX (P := P) (w := w) (K := K) (mg := mg) (base := base) (N := n_read_marked) (q := "read_marked") (sc := defScope s_read_marked) (f := He.ga K "read_marked") (cdv := cdv) (A := A) (outer := outer) (s := s0) (H := H) (E := E)
  have pX := paX (P := P) (w := w) (K := K) (mg := mg) (base := base) (N := n_read_marked) (q := "read_marked") (sc := defScope s_read_marked) (f := He.ga K "read_marked") (cdv := cdv) (A := A) (outer := outer) (s := s0) (H := H) (E := E)
  have po := poX (CX := L2.CX P w) (P := P) (w := w) (K := K) (mg := mg) (base := base) (N := n_read_marked) (q := "read_marked") (sc := defScope s_read_marked) (f := He.ga K "read_marked") (cdv := cdv) (A := A) (outer := outer) (s := s0) (H := H) (E := E)
  have h_Coat : Room (2) _ := hr.mono (by omega)
  have h_read_arms : Room (14) _ := hr.mono (by omega)
  have h_word_ahead : Room (4) _ := hr.mono (by omega)
  have h_read_marks : Room (5) _ := hr.mono (by omega)
  refine ⟨_, (pss_cons (ps_set (i := 1) nd rfl (Or.inl rfl) (pe_mak m_Coat (h_Coat) (pa_cons (pe_gi T.i_MARKED) pa_nil)))
      (pss_cons (ps_fld (pv 1) (pe_cal u_read_arms (h_read_arms) pX (pa_cons (pv 0) pa_nil)) rfl)
      (Evl.pss_cut (ps_if (pt_cmpR op_eq (pe_cal u_word_ahead (h_word_ahead) (p0X (E := E0)) (pa_cons (pv 0) pa_nil)) pe_str (nomark _)) (pss_cons (ps_fld (pv 0) (pe_op op_add (pe_fld (pv 0) rfl) (pe_callB call_len_str (by rfl) T.f_len PySem.boot_len (pa_cons pe_str pa_nil))) rfl)
      (pss_one (ps_fld (pv 1) (pe_cal u_read_arms (h_read_arms) pX (pa_cons (pv 0) pa_nil)) rfl))) pss_nil)
      (Evl.pss_cut (ps_if (pt_cmpR op_eq (pe_cal u_word_ahead (h_word_ahead) (p0X (E := E0)) (pa_cons (pv 0) pa_nil)) pe_str (nomark _)) (pss_cons (ps_fld (pv 0) (pe_op op_add (pe_fld (pv 0) rfl) (pe_callB call_len_str (by rfl) T.f_len PySem.boot_len (pa_cons pe_str pa_nil))) rfl)
      (pss_one (ps_expr (pe_cal u_read_marks (h_read_marks) pX (pa_cons (pv 0) (pa_cons (pv 1) pa_nil)))))) pss_nil)
      (pss_one (ps_ret (pv 1))))))), ?_⟩
  try dsimp only [cxOf]
  clear h_read_marks h_word_ahead h_read_arms h_Coat po pX tk nd
  obtain ⟨_, s, dx, c, bs, p0, p, rfl, _, S, ep, RP⟩ := h
  dsimp only at RP
  have kE := RP.err
  have kO := RP.ok
  clear RP
  walk_at "rd"
  refine mk_Coat (n := 0) fun x dxc ml cl H1 nx nm nc mc sa hx hm hc => ?_
  have xs : x ≠ s := fun z => by rw [z, S.ob] at nx; cases nx
  have ms' : ml ≠ s := fun z => by rw [z, S.ob] at nm; cases nm
  have cs : cl ≠ s := fun z => by rw [z, S.ob] at nc; cases nc
  have xm : x ≠ ml := ne_of hx hm (by intro z; cases z)
  have xc : x ≠ cl := ne_of hx hc (by intro z; cases z)
  have S1 := S.same sa
  have drop : ∀ {H'}, BtM [s, x, ml] H1 H' → Bt s H H' := fun {H'} e => BtM.drop (Bt.refl (H := H)) (fun m hm => by
    rcases List.mem_cons.mp hm with q | hm
    · exact .inl q
    rcases List.mem_cons.mp hm with q | hm
    · exact .inr (q ▸ nx)
    rcases List.mem_cons.mp hm with q | hm
    · exact .inr (q ▸ nm)
    · cases hm) ((BtM.same sa).trans e)
  have G1 : ∀ m ∈ [s, x, ml], H1 m ≠ none := fun m hm' => by
    rcases List.mem_cons.mp hm' with q | hm'
    · rw [q, S1.ob]; simp
    rcases List.mem_cons.mp hm' with q | hm'
    · rw [q, hx]; simp
    rcases List.mem_cons.mp hm' with q | hm'
    · rw [q, hm]; simp
    · cases hm'
  walk_at "rd"
  refine ⟨(), s, dx, c, bs, p0, p, rfl, trivial, S1, ep, ⟨fun e he => (kE e (one_err he)).bt (.same sa), fun am p1 he hp1 av H2 p2 ep2 b2 S2 isA => ?_⟩⟩
  obtain ⟨isA, wfA⟩ := isA
  have hx2 : H2 x = some (.ins (He.ga K "Coat") dxc (coaF 0 .non .non ml cl)) := b2 _ _ xs hx
  walk_at "rd"
  have F3 : BtM [s, x, ml] H1 (upd H2 x (.ins (He.ga K "Coat") dxc (coaF 0 av .non ml cl))) := (BtM.of b2 (by simp)).put (by simp)
  have hx3 : upd H2 x (.ins (He.ga K "Coat") dxc (coaF 0 av .non ml cl)) x = some (.ins (He.ga K "Coat") dxc (coaF 0 av .non ml cl)) := upd_same
  have hm3 : upd H2 x (.ins (He.ga K "Coat") dxc (coaF 0 av .non ml cl)) ml = some (.lst []) := (upd_ne (Ne.symm xm)).trans (b2 _ _ ms' hm)
  have S3 : Src K (WordsC K) (upd H2 x (.ins (He.ga K "Coat") dxc (coaF 0 av .non ml cl))) s dx c bs p2 := S.bt (drop F3) ((upd_ne (Ne.symm xs)).trans S2.ob) S2.le
  have A3 : IsArms K (Dn H1 (upd H2 x (.ins (He.ga K "Coat") dxc (coaF 0 av .non ml cl)))) av am := IsArms.up ((BtM.same (M := [s, x, ml]) (fun _ _ h => h)).put (by simp) |>.dn G1) isA
  show Evl.tCut _ _ _ _ (upd H2 x (.ins (He.ga K "Coat") dxc (coaF 0 av .non ml cl)))
  generalize upd H2 x (.ins (He.ga K "Coat") dxc (coaF 0 av .non ml cl)) = H3 at *
  refine ⟨fun σ H4 => σ = [some (.ref s), some (.ref x)] ∧ ∃ (cv : V) (cant : Option Arms) (q0 q : Nat), BtM [s, x, ml] H1 H4 ∧ Src K (WordsC K) H4 s dx c bs q ∧ sk bs q = sk bs q0 ∧ p0 ≤ q0 ∧ H4 x = some (.ins (He.ga K "Coat") dxc (coaF 0 av cv ml cl)) ∧ H4 ml = some (.lst []) ∧
    IsArms K (Dn H1 H4) av am ∧ IsCant K (Dn H1 H4) cv cant ∧ (∀ a, cant = some a → WfArms a) ∧ oneIn (Lf bs p0) = markedIn am cant (Lf bs q0), ?_, ?_⟩
  · walk_at "rd"
    refine ⟨s, dx, c, bs, p2, rfl, S3, fun H4 b4 S4 => ?_⟩
    rw [ep2] at S4 ⊢
    have F4 : BtM [s, x, ml] H1 H4 := F3.trans (.of b4 (by simp))
    have hx4 := b4 _ _ xs hx3
    have hm4 := b4 _ _ ms' hm3
    have A4 : IsArms K (Dn H1 H4) av am := IsArms.up ((BtM.of b4 (M := [s, x, ml]) (by simp)).dn G1) A3
    walk_at "rd"
    rw [dec_lit lit_aug]
    refine iteB (fun c1 => ?_) fun c1 => ?_
    · have c1' := of_decide_eq_true c1
      have hw := word_yes (p := p1) c1'
      have e9 : (ascii "augmented").length = 9 := by decide +kernel
      rw [e9] at hw
      have eo := one_some he hw
      have hwl := wd_len (bs := bs) (k := sk bs p1)
      rw [c1', e9] at hwl
      walk_at "rd"
      refine ⟨(by rw [len_aug]; decide), ?_⟩
      walk_at "rd"
      generalize hH5 : upd H4 s _ = H5
      have F5 : BtM [s, x, ml] H1 H5 := by rw [← hH5]; exact F4.put (by simp)
      have S5 : Src K (WordsC K) H5 s dx c bs (sk bs p1 + 9) := by
        rw [← hH5]
        exact S4.put (by rw [len_aug]; rfl) (by have := S4.le; omega)
      have hx5 : H5 x = some (.ins (He.ga K "Coat") dxc (coaF 0 av .non ml cl)) := by rw [← hH5, upd_ne xs]; exact hx4
      have hm5 : H5 ml = some (.lst []) := by rw [← hH5, upd_ne ms']; exact hm4
      have A5 : IsArms K (Dn H1 H5) av am := by
        rw [← hH5]
        exact IsArms.up ((BtM.same (M := [s, x, ml]) (fun _ _ h => h)).put (by simp) |>.dn G1) A4
      clear hH5
      refine ⟨(), s, dx, c, bs, sk bs p1 + 9, sk bs p1 + 9, rfl, trivial, S5, rfl, ⟨fun e he2 => (kE e (by rw [eo, show armsIn (Lf bs (sk bs p1 + 9)) = .error e from he2])).bt (drop F5), fun cm p6 he2 hp6 cv H6 p7 ep7 b6 S6 isC => ?_⟩⟩
      obtain ⟨isC, wfC⟩ := isC
      have hx6 := b6 _ _ xs hx5
      have hm6 := b6 _ _ ms' hm5
      walk_at "rd"
      have F6 : BtM [s, x, ml] H5 (upd H6 x (.ins (He.ga K "Coat") dxc (coaF 0 av cv ml cl))) := (BtM.of b6 (by simp)).put (by simp)
      refine ⟨cv, some cm, p6, p7, F5.trans F6, S.bt (drop (F5.trans F6)) ((upd_ne (Ne.symm xs)).trans S6.ob) S6.le, ep7, ?_, upd_same, (upd_ne (Ne.symm xm)).trans hm6, IsArms.up (F6.dn G1) A5, ?_, fun a h => ?_, ?_⟩
      · have := sk_ge bs p1
        omega
      · refine IsArms.up (dn_mono (fun a h => F5.none (mem3 S5.ob hx5 hm5) a h) fun a o n h => ?_) isC
        show upd H6 x _ a = _
        rw [upd_ne (fun z => by rw [z, hx5] at n; cases n)]
        exact h
      · injection h with h
        rw [← h]
        exact wfC
      · rw [eo, show armsIn (Lf bs (sk bs p1 + 9)) = .ok (cm, Lf bs p6) from he2]
    · have c1' := of_decide_eq_false c1
      refine ⟨rfl, .non, none, p1, sk bs p1, F4, S4, sk_sk bs p1, hp1, hx4, hm4, A4, rfl, fun _ h => (by cases h), one_none he (word_no c1')⟩
  rintro _ H4 ⟨rfl, cv, cant, q0, q, F4, S4, eq4, hq0, hx4, hm4, A4, C4, wf4, eo⟩
  rw [eo] at kE kO
  refine ⟨fun σ H5 => σ = [some (.ref s), some (.ref x)] ∧ ∃ (us : List V) (ls : List (Nat × Nat)) (r0 r : Nat), BtM [s, x, ml] H1 H5 ∧ Src K (WordsC K) H5 s dx c bs r ∧ sk bs r = sk bs r0 ∧ p0 ≤ r0 ∧ H5 x = some (.ins (He.ga K "Coat") dxc (coaF 0 av cv ml cl)) ∧ H5 ml = some (.lst us) ∧
    Paired (IsMark (Dn H1 H5)) us ls ∧ ls.length ≤ 60 ∧ (∀ y ∈ ls, MkOk y) ∧ IsArms K (Dn H1 H5) av am ∧ IsCant K (Dn H1 H5) cv cant ∧ markedIn am cant (Lf bs q0) = .ok (.one ⟨am, cant, ls⟩, Lf bs r0), ?_, ?_⟩
  · walk_at "rd"
    refine ⟨s, dx, c, bs, q, rfl, S4, fun H5 b5 S5 => ?_⟩
    rw [eq4] at S5 ⊢
    have F5 : BtM [s, x, ml] H1 H5 := F4.trans (.of b5 (by simp))
    have hx5 := b5 _ _ xs hx4
    have hm5 := b5 _ _ ms' hm4
    have U5 := (BtM.of b5 (M := [s, x, ml]) (by simp)).dn G1
    have A5 := IsArms.up U5 A4
    have C5 := IsCant.up U5 C4
    walk_at "rd"
    rw [dec_lit lit_mkd]
    refine iteB (fun c1 => ?_) fun c1 => ?_
    · have c1' := of_decide_eq_true c1
      have hw := word_yes (p := q0) c1'
      have e6 : (ascii "marked").length = 6 := by decide +kernel
      rw [e6] at hw
      have em := markedIn_yes (a := am) (c := cant) hw
      have hwl := wd_len (bs := bs) (k := sk bs q0)
      rw [c1', e6] at hwl
      walk_at "rd"
      refine ⟨(by rw [len_mkd]; decide), ?_⟩
      walk_at "rd"
      generalize hH6 : upd H5 s _ = H6
      have F6 : BtM [s, x, ml] H1 H6 := by rw [← hH6]; exact F5.put (by simp)
      have S6 : Src K (WordsC K) H6 s dx c bs (sk bs q0 + 6) := by
        rw [← hH6]
        exact S5.put (by rw [len_mkd]; rfl) (by have := S5.le; omega)
      have hx6 : H6 x = some (.ins (He.ga K "Coat") dxc (coaF 0 av cv ml cl)) := by rw [← hH6, upd_ne xs]; exact hx5
      have hm6 : H6 ml = some (.lst []) := by rw [← hH6, upd_ne ms']; exact hm5
      have U6 : Same (Dn H1 H5) (Dn H1 H6) := by
        rw [← hH6]
        exact (BtM.same (M := [s, x, ml]) (fun _ _ h => h)).put (by simp) |>.dn G1
      have A6 := IsArms.up U6 A5
      have C6 := IsCant.up U6 C5
      clear hH6
      have sub : ∀ m ∈ [s, ml], m ∈ [s, x, ml] := fun m h => by
        rcases List.mem_cons.mp h with h | h
        · rw [h]; simp
        · rw [List.mem_singleton.mp h]; simp
      refine ⟨s, dx, c, bs, sk bs q0 + 6, sk bs q0 + 6, x, dxc, ml, cl, av, cv, rfl, S6, rfl, hx6, hm6, fun H' e => (drop (F6.trans (e.sub sub))).seq S.ob S.sq, fun e he d H' b' hd => kE e (by rw [em, he]) d H' (drop (F6.trans (b'.sub sub))) hd, fun ls p2 he hp2 H7 p3 us ep3 F7 S7 hm7 P7 l60 ok7 => ?_⟩
      have F7' := F7.sub sub
      have hx7 := F7 _ _ (by simp [xs, xm]) hx6
      refine ⟨rfl, us, ls, p2, p3, F6.trans F7', S7, ep3, ?_, hx7, hm7, ?_, l60, ok7, IsArms.up (F7'.dn G1) A6, IsCant.up (F7'.dn G1) C6, by rw [em, he]⟩
      · have := sk_ge bs q0
        omega
      · refine Paired.up P7 fun _ _ z => IsTwo.up (dn_mono (F6.none (mem3 S6.ob hx6 hm6)) fun a o n h => h) z
    · have c1' := of_decide_eq_false c1
      exact ⟨rfl, [], [], q0, sk bs q0, F5, S5, sk_sk bs q0, hq0, hx5, hm5, .nil, Nat.zero_le _, fun _ h => (by cases h), A5, C5, markedIn_no (word_no c1')⟩
  rintro _ H5 ⟨rfl, us, ls, r0, r, F5, S5, er5, hr0, hx5, hm5, P5, l60, ok5, A5, C5, em⟩
  have hc5 : H5 cl = some (.lst []) := F5 _ _ (by simp [cs, Ne.symm xc, Ne.symm mc]) hc
  have U : Same (Dn H1 H5) (Dn H H5) := dn_mono (fun a h => sa.free h) fun _ _ _ h => h
  refine ⟨_, rfl, ?_⟩
  refine kO (.one ⟨am, cant, ls⟩) r0 em hr0 _ H5 r er5 (drop F5) S5 ⟨?_, ?_, by unfold Coat.deep; rfl⟩
  · unfold IsCoat
    exact ⟨x, dxc, ml, cl, av, cv, us, rfl, dn_of nx hx5, IsArms.up U A5, IsCant.up U C5, dn_of nm hm5, Paired.up P5 fun _ _ z => IsTwo.up U z, dn_of nc hc5⟩
  · unfold WfCoat
    exact ⟨wfA, wf4, l60, ok5⟩
end
end Hc

namespace Hc
open PySem PySem.Spec PyProof.Rows L2
open Sh ShMarsh
/-- the coat of a kind and its coats -/
def mkCoat (n : Nat) (l : List Coat) : Coat := match n, l with
  | 2, [a, b] => .impaled a b
  | 3, [a, b] => .pretence a b
  | _, l => .quarters l
theorem IsCoats.snoc {K : PySem.W.Frag} {D : Hp} : ∀ {vs : List V} {ls : List Coat} {v : V} {c : Coat}, IsCoats K D vs ls → IsCoat K D v c → IsCoats K D (vs ++ [v]) (ls ++ [c])
  | [], [], v, c, _, h => by
    show IsCoats K D [v] [c]
    unfold IsCoats
    exact ⟨h, by unfold IsCoats; trivial⟩
  | a :: vs, b :: ls, v, c, h, hc => by
    show IsCoats K D (a :: (vs ++ [v])) (b :: (ls ++ [c]))
    unfold IsCoats at h ⊢
    exact ⟨h.1, IsCoats.snoc h.2 hc⟩
  | [], _ :: _, _, _, h, _ => by unfold IsCoats at h; exact h.elim
  | _ :: _, [], _, _, h, _ => by unfold IsCoats at h; exact h.elim
theorem IsCoats.len {K : PySem.W.Frag} {D : Hp} : ∀ {vs : List V} {ls : List Coat}, IsCoats K D vs ls → vs.length = ls.length
  | [], [], _ => rfl
  | _ :: vs, _ :: ls, h => by
    unfold IsCoats at h
    exact congrArg Nat.succ (IsCoats.len h.2)
  | [], _ :: _, h => by unfold IsCoats at h; exact h.elim
  | _ :: _, [], h => by unfold IsCoats at h; exact h.elim
theorem mkCoat_1 (l : List Coat) : mkCoat 1 l = .quarters l := by simp [mkCoat]
theorem mkCoat_2 (a b : Coat) : mkCoat 2 [a, b] = .impaled a b := by simp [mkCoat]
theorem mkCoat_3 (a b : Coat) : mkCoat 3 [a, b] = .pretence a b := by simp [mkCoat]
theorem len_two {α : Type} : ∀ {l : List α}, l.length = 2 → ∃ a b, l = [a, b]
  | [a, b], _ => ⟨a, b, rfl⟩
theorem isCoat_mk {K : PySem.W.Frag} {D : Hp} {n : Nat} {x dx ml cl : Addr} {vs : List V} {ls : List Coat} (hn : n = 1 ∨ ((n = 2 ∨ n = 3) ∧ ls.length = 2)) (hx : D x = some (.ins (He.ga K "Coat") dx (coaF n .non .non ml cl))) (hm : D ml = some (.lst [])) (hc : D cl = some (.lst vs)) (h : IsCoats K D vs ls) :
    IsCoat K D (.ref x) (mkCoat n ls) := by
  rcases hn with rfl | ⟨hn, h2⟩
  · rw [mkCoat_1]
    unfold IsCoat
    exact ⟨x, dx, ml, cl, vs, rfl, hx, hm, hc, h⟩
  · obtain ⟨a, b, rfl⟩ := len_two h2
    obtain ⟨va, vb, rfl⟩ := len_two (h.len.trans h2)
    unfold IsCoats at h
    obtain ⟨ha, hb⟩ := h
    unfold IsCoats at hb
    rcases hn with rfl | rfl
    · rw [mkCoat_2]
      unfold IsCoat
      exact ⟨x, dx, ml, cl, va, vb, rfl, hx, hm, hc, ha, hb.1⟩
    · rw [mkCoat_3]
      unfold IsCoat
      exact ⟨x, dx, ml, cl, va, vb, rfl, hx, hm, hc, ha, hb.1⟩
theorem WfCoats.snoc : ∀ {ls : List Coat} {c : Coat}, WfCoats ls → WfCoat c → WfCoats (ls ++ [c])
  | [], c, _, h => by
    show WfCoats [c]
    unfold WfCoats
    exact ⟨h, by unfold WfCoats; trivial⟩
  | b :: ls, c, h, hc => by
    show WfCoats (b :: (ls ++ [c]))
    unfold WfCoats at h ⊢
    exact ⟨h.1, WfCoats.snoc h.2 hc⟩
theorem deepest_snoc {d : Nat} : ∀ {ls : List Coat} {c : Coat}, deepest ls ≤ d → c.deep ≤ d → deepest (ls ++ [c]) ≤ d
  | [], c, _, h => by
    show max c.deep 0 ≤ d
    omega
  | b :: ls, c, h, hc => by
    have h' : max b.deep (deepest ls) ≤ d := h
    have ih := deepest_snoc (ls := ls) (c := c) (by omega) hc
    show max b.deep (deepest (ls ++ [c])) ≤ d
    omega
/-- the coat of a kind is well made -/
theorem wf_mk {n d : Nat} {ls : List Coat} (hn : n = 1 ∨ n = 2 ∨ n = 3) (h2 : n ≠ 1 → ls.length = 2) (h9 : 2 ≤ ls.length ∧ ls.length ≤ 9) (hw : WfCoats ls) (hd : deepest ls ≤ d) : WfCoat (mkCoat n ls) ∧ (mkCoat n ls).deep ≤ d + 1 := by
  by_cases h1 : n = 1
  · subst h1
    rw [mkCoat_1]
    refine ⟨?_, ?_⟩
    · unfold WfCoat
      exact ⟨h9.1, h9.2, hw⟩
    · unfold Coat.deep
      omega
  · obtain ⟨a, b, rfl⟩ := len_two (h2 h1)
    unfold WfCoats at hw
    obtain ⟨ha, hb⟩ := hw
    unfold WfCoats at hb
    have hd' : max a.deep (max b.deep 0) ≤ d := hd
    rcases hn with rfl | rfl | rfl
    · exact absurd rfl h1
    · rw [mkCoat_2]
      refine ⟨by unfold WfCoat; exact ⟨ha, hb.1⟩, ?_⟩
      unfold Coat.deep
      omega
    · rw [mkCoat_3]
      refine ⟨by unfold WfCoat; exact ⟨ha, hb.1⟩, ?_⟩
      unfold Coat.deep
      omega
theorem no_key {K : PySem.W.Frag} {w : World} {d : Addr} {ks : List Str} {z : Str} (D : KeysD K w d ks) (h : z ∉ ks) : PySem.W.nsIn K d z = some none := by
  obtain ⟨_, es, n, hl, hsz, hk⟩ := D
  have all : ∀ e ∈ es.toList, ∃ k, k ∈ ks ∧ ∃ t, e.key = .str k t := fun e he => by
    obtain ⟨i, hi⟩ := List.mem_iff_getElem?.mp he
    have hi' : es[i]? = some e := by rw [← Array.getElem?_toList]; exact hi
    have hlt : i < ks.length := by
      have := (Array.getElem?_eq_some_iff.mp hi').1
      omega
    obtain ⟨en, h1, t, h2⟩ := hk i ks[i] (List.getElem?_eq_getElem hlt)
    rw [hi'] at h1
    injection h1 with h1
    subst h1
    exact ⟨_, List.getElem_mem hlt, t, h2⟩
  have f1 : es.toList.find? (·.key.isStr z) = none := by
    rw [List.find?_eq_none]
    intro e he hz
    obtain ⟨k, hk, t, ht⟩ := all e he
    rw [ht] at hz
    have hz' : (k == z) = true := hz
    exact h (eq_of_beq hz' ▸ hk)
  have f2 : es.toList.any (·.refKey) = false := by
    rw [List.any_eq_false]
    intro e he hz
    obtain ⟨k, hk, t, ht⟩ := all e he
    unfold DictEntry.refKey at hz
    rw [ht] at hz
    cases hz
  unfold PySem.W.nsIn
  rw [hl]
  dsimp only
  rw [f1]
  dsimp only
  rw [f2]
  rfl
open ShBlazon
theorem list_open {n f d pl : Nat} {bs : List UInt8} {p : Nat} (h : bs[sk bs p]? ≠ some 91) : listG n (f + 1) d pl (Lf bs p) = .error (10, sk bs p) := by
  unfold listG
  by_cases h1 : n = 1
  · rw [if_pos h1, need_no h]
  · rw [if_neg h1]
    unfold twoIn
    rw [need_no h]
theorem list_err {n f d pl : Nat} {bs : List UInt8} {p : Nat} {e : ShBlazon.Fault} (h : bs[sk bs p]? = some 91) (he : coatIn f d (Lf bs (sk bs p + 1)) = .error e) : listG n (f + 1) d pl (Lf bs p) = .error e := by
  unfold listG
  by_cases h1 : n = 1
  · rw [if_pos h1, need_yes h]
    dsimp only
    rw [more_err he]
  · rw [if_neg h1]
    unfold twoIn
    rw [need_yes h]
    dsimp only
    rw [he]
/-- several: behind the first -/
theorem list_more {f d pl : Nat} {bs : List UInt8} {p : Nat} {x : Coat × Left} (h : bs[sk bs p]? = some 91) (he : coatIn f d (Lf bs (sk bs p + 1)) = .ok x) : listG 1 (f + 1) d pl (Lf bs p) = match contC f d [x.1] x.2 with
    | .error e => .error e
    | .ok l => if l.1.length < 2 ∨ 9 < l.1.length then .error (14, pl) else .ok l := by
  unfold listG
  rw [if_pos rfl, need_yes h]
  dsimp only
  rw [more_ok he]
  rfl
/-- two: behind the first -/
theorem list_two {n f d pl : Nat} {bs : List UInt8} {p p1 : Nat} {x : Coat} (hn : n ≠ 1) (h : bs[sk bs p]? = some 91) (he : coatIn f d (Lf bs (sk bs p + 1)) = .ok (x, Lf bs p1)) :
    (bs[sk bs p1]? ≠ some 59 → listG n (f + 1) d pl (Lf bs p) = .error (10, sk bs p1)) ∧
    (bs[sk bs p1]? = some 59 → (∀ e, coatIn f d (Lf bs (sk bs p1 + 1)) = .error e → listG n (f + 1) d pl (Lf bs p) = .error e) ∧
      ∀ y s, coatIn f d (Lf bs (sk bs p1 + 1)) = .ok (y, s) → listG n (f + 1) d pl (Lf bs p) = match needSign 93 s with
        | .error e => .error e
        | .ok t => .ok ([x, y], t)) := by
  unfold listG
  rw [if_neg hn]
  unfold twoIn
  rw [need_yes h]
  dsimp only
  rw [he]
  dsimp only
  refine ⟨fun z => by rw [need_no z], fun z => ⟨fun e h2 => ?_, fun y s h2 => ?_⟩⟩
  · rw [need_yes z]
    dsimp only
    rw [h2]
  · rw [need_yes z]
    dsimp only
    rw [h2]
    dsimp only
    cases needSign 93 s <;> rfl
/-- what is left to be seen behind the coats -/
def FinL (bs : List UInt8) (n f d pl p : Nat) (ls : List Coat) (q0 : Nat) : Prop := listG n f d pl (Lf bs p) = match needSign 93 (Lf bs q0) with
  | .error e => .error e
  | .ok t => if ls.length < 2 ∨ 9 < ls.length then .error (14, pl) else .ok (ls, t)
def kindX (n : Nat) : String := if n = 1 then "quarterly" else if n = 2 then "impaled" else "pretence"
theorem coat_kind {n f d : Nat} {bs : List UInt8} {p : Nat} (hn : n = 1 ∨ n = 2 ∨ n = 3) (h : wd bs (sk bs p) = ascii (kindX n)) : coatIn (f + 1) (d + 1) (Lf bs p) = match listG n f d (sk bs p) (Lf bs (sk bs p + (ascii (kindX n)).length)) with
    | .error e => .error e
    | .ok l => .ok (mkCoat n l.1, l.2) := by
  have n12 : ascii "impaled" ≠ ascii "quarterly" := by decide +kernel
  have n13 : ascii "pretence" ≠ ascii "quarterly" := by decide +kernel
  have n23 : ascii "pretence" ≠ ascii "impaled" := by decide +kernel
  unfold coatIn
  rw [if_neg (by omega), Nat.add_sub_cancel]
  rcases hn with rfl | rfl | rfl
  · rw [word_yes (x := "quarterly") h]
    dsimp only
    unfold listG
    rw [if_pos rfl]
    have et : Lf bs (sk bs p + (ascii (kindX 1)).length) = Lf bs (sk bs p + (ascii "quarterly").length) := rfl
    rw [et]
    generalize Lf bs (sk bs p + (ascii "quarterly").length) = t
    cases needSign 91 t with
    | error e => rfl
    | ok u =>
      dsimp only
      cases moreIn f d u with
      | error e => rfl
      | ok l =>
        dsimp only
        by_cases z : l.1.length < 2 ∨ QUARTERS < l.1.length
        · rw [if_pos z, if_pos z, skip_L]
          rfl
        · rw [if_neg z, if_neg z]
          dsimp only
          rw [mkCoat_1]
  · rw [word_no (x := "quarterly") (by rw [h]; exact n12), word_yes (x := "impaled") h]
    dsimp only
    unfold listG
    rw [if_neg (by decide)]
    have et : Lf bs (sk bs p + (ascii (kindX 2)).length) = Lf bs (sk bs p + (ascii "impaled").length) := rfl
    rw [et]
    generalize Lf bs (sk bs p + (ascii "impaled").length) = t
    cases twoIn f d t with
    | error e => rfl
    | ok u =>
      dsimp only
      rw [mkCoat_2]
  · rw [word_no (x := "quarterly") (by rw [h]; exact n13), word_no (x := "impaled") (by rw [h]; exact n23), word_yes (x := "pretence") h]
    dsimp only
    unfold listG
    rw [if_neg (by decide)]
    have et : Lf bs (sk bs p + (ascii (kindX 3)).length) = Lf bs (sk bs p + (ascii "pretence").length) := rfl
    rw [et]
    generalize Lf bs (sk bs p + (ascii "pretence").length) = t
    cases twoIn f d t with
    | error e => rfl
    | ok u =>
      dsimp only
      rw [mkCoat_3]
end Hc

namespace Hc
open PySem PySem.Spec PyProof.Rows L2
open Sh ShMarsh ShBlazon
set_option hygiene false
local macro_rules | `(tactic| walk_at "hp") => `(tactic| first | assumption | exact Src.ob (by assumption) | exact Rdr.ob (by assumption) | exact upd_same)
local macro_rules | `(tactic| walk_at "sq") => `(tactic| first | assumption | exact Src.sq (by assumption) | exact Rdr.sq (by assumption) | exact SqL.of (by assumption) | exact SqL.of upd_same | exact SqT.of (by assumption) | exact SqT.of upd_same)
local macro_rules | `(tactic| walk_at "cl") => `(tactic| with_reducible first | exact T.c_Bytes | exact T.c_Coat | exact T.c_Arms | exact T.c_Layer | exact T.c_Token | exact T.c_Reader | exact T.c_Words)
local macro_rules | `(tactic| walk_at "na") => `(tactic| with_reducible first | exact T.n_Bytes_some | exact T.n_Bytes_at | exact T.n_Coat_kind | exact T.n_Coat_arms | exact T.n_Coat_canton | exact T.n_Coat_marks | exact T.n_Coat_coats | exact T.n_Arms_field | exact T.n_Arms_layers | exact T.n_Layer_kind | exact T.n_Layer_numbers | exact T.n_Layer_fill | exact T.n_Token_kind | exact T.n_Token_value | exact T.n_Token_place | exact T.n_Token_behind | exact T.n_Reader_some | exact T.n_Reader_at | exact T.n_Reader_end | exact T.n_Words_some | exact T.n_Words_at)
local macro_rules | `(tactic| walk_at "ai") => `(tactic| first | assumption | exact atI_nat (by assumption) | rfl)
local macro_rules | `(tactic| walk_at "rd1") => `(tactic| first
  | refine ⟨_, rfl, ?_⟩
  | refine ⟨rfl, ?_⟩
  | refine ⟨_, _, rfl, rfl, ?_⟩
  | refine ⟨_, _, _, _, _, rfl, (by walk_at "hp"), (by walk_at "cl"), (by walk_at "na"), (by rfl), ?_⟩
  | refine ⟨_, _, _, _, rfl, (by walk_at "hp"), (by walk_at "cl"), (by walk_at "na"), Nat.le_of_ble_eq_true rfl, ?_⟩
  | refine ⟨_, _, _, _, rfl, rfl, (by walk_at "sq"), (by walk_at "ai"), ?_⟩
  | refine ⟨_, _, rfl, (by first | exact Or.inl (by walk_at "sq") | exact Or.inr (by walk_at "sq")), ?_⟩
  | refine ⟨(by walk_at "ar"), ?_⟩)
local macro_rules | `(tactic| walk_at "ar") => `(tactic| first | exact (show CDiv _ _ from ⟨by decide, by decide⟩) | exact (show (0 : Int) < _ from by decide) | exact (show CMul _ _ from .inl ⟨by omega, by omega⟩) | exact (show CMul _ _ from .inr ⟨by omega, by omega⟩))
local macro_rules | `(tactic| walk_at "rd") => `(tactic| repeat walk_at "rd1")
local macro_rules | `(tactic| walk_at "fa") => `(tactic| first | exact ⟨_, rfl, (by omega), rfl⟩ | exact ⟨_, _, rfl, (by omega), rfl⟩ | exact ⟨_, _, _, rfl, (by omega), rfl⟩ | exact ⟨_, _, _, _, rfl, (by omega), rfl⟩ | exact ⟨_, _, _, _, _, rfl, (by omega), rfl⟩)
local macro_rules | `(tactic| walk_at "vr") => `(tactic| first
  | exact v_var (by rfl)
  | exact v_c
  | (apply v_i0 <;> walk_at "vr")
  | (apply v_i <;> first | walk_at "ar" | walk_at "vr")
  | (apply v_neg <;> walk_at "vr")
  | (apply v_eq <;> walk_at "vr")
  | (apply v_eqB <;> walk_at "vr")
  | (apply v_ne <;> walk_at "vr")
  | (apply v_neB <;> walk_at "vr")
  | (apply v_chain (g := fun _ _ => _) (g' := fun _ _ => _) <;> walk_at "vr")
  | (apply v_and <;> walk_at "vr")
  | (apply v_or <;> walk_at "vr")
  | (apply v_not <;> walk_at "vr")
  | (apply v_ifI <;> walk_at "vr")
  | (apply v_ifB <;> walk_at "vr")
  | (apply v_call <;> first | walk_at "fa" | walk_at "vr")
  | (apply v_abs <;> walk_at "vr")
  | (apply v_min <;> walk_at "vr")
  | exact va_nil
  | (apply va_cons <;> walk_at "vr")
  | (apply a_test <;> walk_at "vr")
  | (apply a_B <;> walk_at "vr")
  | (apply a_and <;> walk_at "vr")
  | (apply a_or <;> walk_at "vr")
  | (apply a_not <;> walk_at "vr"))
local macro_rules | `(tactic| walk_at "rs") => `(tactic| first
  | (apply r_ret; walk_at "vr")
  | (apply r_set; walk_at "vr"; walk_at "rs")
  | (apply r_ifI; walk_at "vr"; intro _; walk_at "rs"; intro _; walk_at "rs")
  | (apply r_ifB; walk_at "vr"; intro _; walk_at "rs"; intro _; walk_at "rs"))

section
variable {P : Program} {w : World} {K : PySem.W.Frag} {mg : Str → Option Value} {base : Heap}
/-- a coat of depth d at most -/
abbrev spCoatW (K : PySem.W.Frag) (d : Nat) : Sp := spRdW (ι := Nat) K (fun _ => [.int ((5 : Int) - (d : Nat))]) (fun f bs p0 => 2 * (bs.length - p0) + 1 ≤ f) (fun f => coatIn f d) (fun _ D v m => IsCoat K D v m ∧ WfCoat m ∧ m.deep ≤ d)
/-- coats in brackets, each of depth d at most -/
def spListW (K : PySem.W.Frag) (d : Nat) : Sp := fun vs H Q E => ∃ (f : Nat) (s dx c : Addr) (bs : List UInt8) (p n : Nat) (x dxc ml cl : Addr) (pl : Nat), vs = [.ref s, .ref x, .int ((4 : Int) - (d : Nat)), .int (pl : Int)] ∧ 2 * (bs.length - p) + 3 ≤ f ∧ Src K (WordsC K) H s dx c bs p ∧
  (n = 1 ∨ n = 2 ∨ n = 3) ∧ H x = some (.ins (He.ga K "Coat") dxc (coaF n .non .non ml cl)) ∧ H cl = some (.lst []) ∧ (∀ H', BtM [s, cl] H H' → SqL K H' c (bs.map bv)) ∧
  (∀ e, listG n f d pl (Lf bs p) = .error e → ∀ (a : Addr) H', BtM [s, cl] H H' → H' a = some (.xd [("place", .int ((e.2 : Nat) : Int)), ("kind", .int ((e.1 : Nat) : Int))]) → E (.ref (He.ga K "Fault")) (some a) H') ∧
  (∀ ls p2, listG n f d pl (Lf bs p) = .ok (ls, Lf bs p2) → p ≤ p2 → ∀ H' p3 us, sk bs p3 = sk bs p2 → BtM [s, cl] H H' → Src K (WordsC K) H' s dx c bs p3 → H' cl = some (.lst us) → IsCoats K (Dn H H') us ls → WfCoats ls → deepest ls ≤ d → (2 ≤ ls.length ∧ ls.length ≤ 9) → (n ≠ 1 → ls.length = 2) → Q .non H')
def spLx (K : PySem.W.Frag) : Nat → Sp
  | 0 => fun _ _ _ _ => False
  | d + 1 => spListW K d
theorem mem2 {H : Hp} {a b : Addr} {x y : HO} (h1 : H a = some x) (h2 : H b = some y) : ∀ m ∈ [a, b], H m ≠ none := fun m hm => by
  rcases List.mem_cons.mp hm with q | hm
  · rw [q, h1]; simp
  · rw [List.mem_singleton.mp hm, h2]; simp
theorem step_read_list (T : Txt w K mg) (u_take_sign : Cal P w K mg base (L2.CX P w) 4 "take_sign" p_take_sign (spSign K)) (u_pass_blanks : Cal P w K mg base CX0 3 "pass_blanks" p_pass_blanks (spBlanks K)) (q_Fault : Exq P w K mg base 1 "Fault" p_Fault_init (spErr2 K "Fault")) (d : Nat) (u_read_coat : Cal P w K mg base (L2.CX P w) (21 + 2 * d) "read_coat" p_read_coat (spCoatW K d)) : Cal P w K mg base (L2.CX P w) (21 + 2 * d + 1) "read_list" p_read_list (spLx K (d + 1)) := by
  refine T.d_read_list.cal sc_read_list (fun vs H Q E h => by obtain ⟨_, _, _, _, _, _, _, _, _, _, _, _, rfl, _⟩ := h; rfl) ?_
  intro cdv A outer s0 H vs Q E hr h
  have nd := sc_read_list.nd
  have tk := tkX (P := P) (w := w) (K := K) (mg := mg) (base := base) (N := n_read_list) (q := "read_list") (sc := defScope s_read_list) (f := He.ga K "read_list") (cdv := cdv) (A := A) (outer := outer) (s := s0) (H := H) (E := E)
  have pX := paX (P := P) (w := w) (K := K) (mg := mg) (base := base) (N := n_read_list) (q := "read_list") (sc := defScope s_read_list) (f := He.ga K "read_list") (cdv := cdv) (A := A) (outer := outer) (s := s0) (H := H) (E := E)
  have po := poX (CX := L2.CX P w) (P := P) (w := w) (K := K) (mg := mg) (base := base) (N := n_read_list) (q := "read_list") (sc := defScope s_read_list) (f := He.ga K "read_list") (cdv := cdv) (A := A) (outer := outer) (s := s0) (H := H) (E := E)
  have h_take_sign : Room (4) _ := hr.mono (by omega)
  have h_pass_blanks : Room (3) _ := hr.mono (by omega)
  have h_Fault : Room (2) _ := hr.mono (by omega)
  have h_read_coat : Room (21+2*d) _ := hr.mono (by omega)
  refine ⟨_, (pss_cons (ps_expr (pe_cal u_take_sign (h_take_sign) pX (pa_cons (pv 0) (pa_cons (pe_gi T.i_LIST_OPENING) pa_nil))))
      (pss_cons (ps_expr (pe_bm PySem.F.plainAttrs_list PySem.F.slot_list_append PySem.F.type_list_append mt_append (pe_fld (pv 1) rfl) (pa_cons (pe_cal u_read_coat (h_read_coat) pX (pa_cons (pv 0) (pa_cons (pe_op op_add (pv 2) pe_int) pa_nil))) pa_nil)))
      (Evl.pss_cut (ps_if (pt_cmpR op_ne (pe_fld (pv 1) rfl) (pe_gi T.i_QUARTERLY) (nomark _)) (pss_cons (ps_expr (pe_cal u_take_sign (h_take_sign) pX (pa_cons (pv 0) (pa_cons (pe_gi T.i_BETWEEN) pa_nil))))
      (pss_one (ps_expr (pe_bm PySem.F.plainAttrs_list PySem.F.slot_list_append PySem.F.type_list_append mt_append (pe_fld (pv 1) rfl) (pa_cons (pe_cal u_read_coat (h_read_coat) pX (pa_cons (pv 0) (pa_cons (pe_op op_add (pv 2) pe_int) pa_nil))) pa_nil))))) (pss_one (ps_while po (pt_cmpR op_eq (pe_cal u_pass_blanks (h_pass_blanks) (p0X (E := E0)) (pa_cons (pv 0) pa_nil)) (pe_gi T.i_BETWEEN) (nomark _)) (pss_cons (ps_fld (pv 0) (pe_op op_add (pe_fld (pv 0) rfl) pe_int) rfl)
      (pss_one (ps_expr (pe_bm PySem.F.plainAttrs_list PySem.F.slot_list_append PySem.F.type_list_append mt_append (pe_fld (pv 1) rfl) (pa_cons (pe_cal u_read_coat (h_read_coat) pX (pa_cons (pv 0) (pa_cons (pe_op op_add (pv 2) pe_int) pa_nil))) pa_nil))))))))
      (pss_cons (ps_expr (pe_cal u_take_sign (h_take_sign) pX (pa_cons (pv 0) (pa_cons (pe_gi T.i_LIST_CLOSING) pa_nil))))
      (pss_one (ps_if (pt_not (pt_chain op_le op_le pe_int (pe_callB call_len_seq (by rfl) T.f_len PySem.boot_len (pa_cons (pe_fld (pv 1) rfl) pa_nil)) (pe_gi T.i_MOST_COATS))) (pss_one (ps_raise rfl tk (pmk_exq q_Fault (h_Fault) (by exact (pa_cons pe_int (pa_cons (pv 3) pa_nil)))))) pss_nil)))))), ?_⟩
  try dsimp only [cxOf]
  clear h_read_coat h_Fault h_pass_blanks h_take_sign po pX tk nd
  obtain ⟨f, s, dx, c, bs, p, n, x, dxc, ml, cl, pl, rfl, hf, S, hn, hx, hc, keep, kE, kO⟩ := h
  have xs : x ≠ s := fun z => by
    rw [z, S.ob] at hx
    injection hx with hx
    injection hx with _ _ hx
    have q1 : (("some" : Str), V.ref c) = (("kind" : Str), iv n) := (List.cons.inj hx).1
    exact absurd (show ("some" : Str) = "kind" from congrArg Prod.fst q1) (by decide +kernel)
  have cs : cl ≠ s := ne_of hc S.ob (by intro z; cases z)
  have xc : x ≠ cl := ne_of hx hc (by intro z; cases z)
  have G0 := mem2 S.ob hc
  obtain ⟨f, rfl⟩ : ∃ f', f = f' + 1 := ⟨f - 1, by omega⟩
  walk_at "rd"
  refine ⟨s, dx, c, bs, p, 91, rfl, S, fun z => (fun a H' b hd => kE _ (list_open z) a H' (.of b (by simp)) hd), fun z91 H1 b1 S1 => ?_⟩
  have hlt := (List.getElem?_eq_some_iff.mp z91).1
  have hge := sk_ge bs p
  have hx1 := b1 _ _ xs hx
  have hc1 := b1 _ _ cs hc
  walk_at "rd"
  refine ⟨.inl ⟨rfl, _, SqL.of hc1⟩, ?_⟩
  walk_at "rd"
  refine ⟨f, s, dx, c, bs, sk bs p + 1, sk bs p + 1, (by simp; omega), by omega, S1, rfl, ⟨fun e he a H' b hd => kE e (list_err z91 he) a H' (.of (b1.trans b) (by simp)) hd, fun y p1 he hp1 v H2 p1' ep1 b2 S2 is => ?_⟩⟩
  obtain ⟨isC, wfC, dpC⟩ := is
  have hc2 := b2 _ _ cs hc1
  refine ⟨cl, [], _, rfl, rfl, hc2, by show 0 < sizeLine; decide, ?_⟩
  have F3 : BtM [s, cl] H (upd H2 cl (.lst ([] ++ [v]))) := (BtM.of (b1.trans b2) (by simp)).put (by simp)
  have P3 : IsCoats K (Dn H (upd H2 cl (.lst ([] ++ [v])))) [v] [y] := by
    unfold IsCoats
    refine ⟨IsCoat.up (dn_mono (b1.none S1.ob) fun a o q h => ?_) isC, by unfold IsCoats; trivial⟩
    rw [upd_ne (fun z => by rw [z, hc1] at q; cases q)]
    exact h
  have S3 : Src K (WordsC K) (upd H2 cl (.lst ([] ++ [v]))) s dx c bs p1' := ⟨(upd_ne (Ne.symm cs)).trans S2.ob, keep _ F3, S2.le, S2.big⟩
  have hc3 : upd H2 cl (.lst ([] ++ [v])) cl = some (.lst [v]) := upd_same
  have he' : coatIn f d (Lf bs (sk bs p + 1)) = .ok (y, Lf bs p1) := he
  show Evl.tCut _ _ _ _ (upd H2 cl (.lst ([] ++ [v])))
  generalize upd H2 cl (.lst ([] ++ [v])) = H3 at *
  clear isC hc2 S2 b2 hc1 S1 b1 hx1
  have W1 : WfCoats [y] := by
    unfold WfCoats
    exact ⟨wfC, by unfold WfCoats; trivial⟩
  have D1 : deepest [y] ≤ d := by
    show max y.deep 0 ≤ d
    omega
  refine ⟨fun σ H4 => σ = [some (.ref s), some (.ref x), some (.int ((4 : Int) - (d : Nat))), some (.int (pl : Int))] ∧ ∃ (us : List V) (ls : List Coat) (q0 q : Nat), BtM [s, cl] H H4 ∧ Src K (WordsC K) H4 s dx c bs q ∧ sk bs q = sk bs q0 ∧ p ≤ q0 ∧ H4 cl = some (.lst us) ∧ IsCoats K (Dn H H4) us ls ∧
    WfCoats ls ∧ deepest ls ≤ d ∧ (n ≠ 1 → ls.length = 2) ∧ FinL bs n (f + 1) d pl p ls q0, ?_, ?_⟩
  · have hx3 : H3 x = some (.ins (He.ga K "Coat") dxc (coaF n .non .non ml cl)) := F3 _ _ (by simp [xs, xc]) hx
    walk_at "rd"
    refine iteB (fun c1 => ?_) fun c1 => ?_
    · have hn1 : n ≠ 1 := fun z => by
        rw [z] at c1
        exact absurd c1 (by decide)
      obtain ⟨t1, t2⟩ := list_two (pl := pl) hn1 z91 he'
      walk_at "rd"
      refine ⟨s, dx, c, bs, p1', 59, rfl, S3, fun z => (fun a H' b hd => kE (10, sk bs p1') ?_ a H' (F3.trans (.of b (by simp))) hd), fun z59 H5 b5 S5 => ?_⟩
      · rw [ep1] at z ⊢
        exact t1 z
      rw [ep1] at z59 S5
      have hlt5 := (List.getElem?_eq_some_iff.mp z59).1
      have hge5 := sk_ge bs p1
      obtain ⟨e1, e2⟩ := t2 z59
      have F5 : BtM [s, cl] H H5 := F3.trans (.of b5 (by simp))
      have hx5 := b5 _ _ xs hx3
      have hc5 := b5 _ _ cs hc3
      have P5 := IsCoats.up ((BtM.of b5 (M := [s, cl]) (by simp)).dn G0) P3
      walk_at "rd"
      refine ⟨.inl ⟨rfl, _, SqL.of hc5⟩, ?_⟩
      walk_at "rd"
      refine ⟨f, s, dx, c, bs, sk bs p1 + 1, sk bs p1 + 1, (by simp; omega), by omega, S5, rfl, ⟨fun e he a H' b hd => kE e (e1 e he) a H' (F5.trans (.of b (by simp))) hd, fun y2 p2 he2 hp2 v2 H6 p2' ep2 b6 S6 is => ?_⟩⟩
      obtain ⟨isC, wfC2, dpC2⟩ := is
      have hc6 := b6 _ _ cs hc5
      have e3 := e2 y2 (Lf bs p2) he2
      refine ⟨cl, [v], _, rfl, rfl, hc6, by show 1 < sizeLine; decide, ?_⟩
      have F7 : BtM [s, cl] H5 (upd H6 cl (.lst ([v] ++ [v2]))) := (BtM.of b6 (by simp)).put (by simp)
      refine ⟨rfl, [v] ++ [v2], [y] ++ [y2], p2, p2', F5.trans F7, ⟨(upd_ne (Ne.symm cs)).trans S6.ob, keep _ (F5.trans F7), S6.le, S6.big⟩, ep2, by omega, upd_same, ?_, WfCoats.snoc W1 wfC2, deepest_snoc D1 dpC2, fun _ => rfl, ?_⟩
      · refine IsCoats.snoc (IsCoats.up (F7.dn G0) P5) (IsCoat.up (dn_mono (F5.none (mem2 S5.ob hc5)) fun a o q h => ?_) isC)
        rw [upd_ne (fun z => by rw [z, hc5] at q; cases q)]
        exact h
      · unfold FinL
        rw [e3]
        cases needSign 93 (Lf bs p2) with
        | error e => rfl
        | ok t =>
          dsimp only
          rw [if_neg]
          · rfl
          · show ¬ (2 < 2 ∨ 9 < 2)
            omega
    · have hn1 : n = 1 := by
        have z : V.int (n : Int) = V.int 1 := of_decide_eq_true (ndf c1)
        injection z with z
        omega
      subst hn1
      have on3 := list_more (pl := pl) z91 he'
      refine ⟨fun m σ H' => ∃ (us : List V) (ls : List Coat) (fi q0 q : Nat), σ = [some (.ref s), some (.ref x), some (.int ((4 : Int) - (d : Nat))), some (.int (pl : Int))] ∧ BtM [s, cl] H H' ∧ Src K (WordsC K) H' s dx c bs q ∧ sk bs q = sk bs q0 ∧ p ≤ q0 ∧ H' cl = some (.lst us) ∧ IsCoats K (Dn H H') us ls ∧
        WfCoats ls ∧ deepest ls ≤ d ∧ ls.length ≤ q0 ∧ 2 * (bs.length - q0) + 1 ≤ fi ∧ (listG 1 (f + 1) d pl (Lf bs p) = match contC fi d ls (Lf bs q0) with
          | .error e => .error e
          | .ok l => if l.1.length < 2 ∨ 9 < l.1.length then .error (14, pl) else .ok l) ∧ m = fi, ⟨_, [v], [y], f, p1, p1', rfl, F3, S3, ep1, by omega, hc3, P3, W1, D1, by show 1 ≤ p1; omega, by omega, on3, rfl⟩, ?_⟩
      clear P3 F3 S3 hc3 on3 hx3
      rintro m σ H4 ⟨us, ls, fi, q0, q, rfl, F4, S4, eq4, hq0, hc4, P4, W4, D4, l4, hfi, on4, rfl⟩
      walk_at "rd"
      refine ⟨s, dx, c, bs, q, rfl, S4, fun H5 b5 S5 => ?_⟩
      have hsq := sk_le S4.le
      rw [eq4] at S5 hsq ⊢
      have F5 : BtM [s, cl] H H5 := F4.trans (.of b5 (by simp))
      have hx5 : H5 x = some (.ins (He.ga K "Coat") dxc (coaF 1 .non .non ml cl)) := F5 _ _ (by simp [xs, xc]) hx
      have hc5 := b5 _ _ cs hc4
      have P5 := IsCoats.up ((BtM.of b5 (M := [s, cl]) (by simp)).dn G0) P4
      have hge5 := sk_ge bs q0
      walk_at "rd"
      refine ⟨by rw [by_VI]; rfl, _, rfl, ?_⟩
      refine iteB (fun c2 => ?_) fun c2 => ?_
      · have z59 : bs[sk bs q0]? = some 59 := by_sign.mp (show byV bs (sk bs q0) = V.int 59 from of_decide_eq_true c2)
        have hlt5 := (List.getElem?_eq_some_iff.mp z59).1
        obtain ⟨fi, rfl⟩ : ∃ f', m = f' + 1 := ⟨m - 1, by omega⟩
        refine ⟨fun σ' H' => ∃ (us : List V) (ls : List Coat) (fj q0 q : Nat), fj < fi + 1 ∧ σ' = [some (.ref s), some (.ref x), some (.int ((4 : Int) - (d : Nat))), some (.int (pl : Int))] ∧ BtM [s, cl] H H' ∧ Src K (WordsC K) H' s dx c bs q ∧ sk bs q = sk bs q0 ∧ p ≤ q0 ∧ H' cl = some (.lst us) ∧ IsCoats K (Dn H H') us ls ∧
          WfCoats ls ∧ deepest ls ≤ d ∧ ls.length ≤ q0 ∧ 2 * (bs.length - q0) + 1 ≤ fj ∧ (listG 1 (f + 1) d pl (Lf bs p) = match contC fj d ls (Lf bs q0) with
            | .error e => .error e
            | .ok l => if l.1.length < 2 ∨ 9 < l.1.length then .error (14, pl) else .ok l), ?_, ?_⟩
        · rintro σ' H' ⟨us, ls, fj, q0, q, h0, h1, h2, h3, h4, h5, h6, h7, h8, h9, h10, h11, h12⟩
          exact ⟨fj, h0, us, ls, fj, q0, q, h1, h2, h3, h4, h5, h6, h7, h8, h9, h10, h11, h12, rfl⟩
        walk_at "rd"
        generalize hH6 : upd H5 s _ = H6
        have F6 : BtM [s, cl] H5 H6 := by rw [← hH6]; exact (BtM.same (fun _ _ h => h)).put (by simp)
        have S6 : Src K (WordsC K) H6 s dx c bs (sk bs q0 + 1) := by
          rw [← hH6]
          exact S5.put rfl (by omega)
        have b6 : Bt s H5 H6 := by rw [← hH6]; exact Bt.refl.put
        clear hH6
        have hx6 := b6 _ _ xs hx5
        have hc6 := b6 _ _ cs hc5
        have P6 := IsCoats.up (F6.dn G0) P5
        have F6' := F5.trans F6
        have eln := P6.len
        have hbig := S.big
        walk_at "rd"
        refine ⟨.inl ⟨rfl, _, SqL.of hc6⟩, ?_⟩
        walk_at "rd"
        refine ⟨fi, s, dx, c, bs, sk bs q0 + 1, sk bs q0 + 1, (by simp; omega), by omega, S6, rfl, ⟨fun e he a H' b hd => kE e (by rw [on4, cont_err (sign_yes z59) he]) a H' (F6'.trans (.of b (by simp))) hd, fun y2 p2 he2 hp2 v2 H7 p2' ep2 b7 S7 is => ?_⟩⟩
        obtain ⟨isC, wfC2, dpC2⟩ := is
        have hc7 := b7 _ _ cs hc6
        refine ⟨cl, us, _, rfl, rfl, hc7, Nat.lt_of_le_of_lt (show us.length ≤ 5000 by omega) (by decide), ?_⟩
        have F8 : BtM [s, cl] H6 (upd H7 cl (.lst (us ++ [v2]))) := (BtM.of b7 (by simp)).put (by simp)
        refine ⟨us ++ [v2], ls ++ [y2], fi, p2, p2', Nat.lt_succ_self _, rfl, F6'.trans F8, ⟨(upd_ne (Ne.symm cs)).trans S7.ob, keep _ (F6'.trans F8), S7.le, S7.big⟩, ep2, by omega, upd_same, ?_, WfCoats.snoc W4 wfC2, deepest_snoc D4 dpC2, ?_, by omega, ?_⟩
        · refine IsCoats.snoc (IsCoats.up (F8.dn G0) P6) (IsCoat.up (dn_mono (F6'.none (mem2 S6.ob hc6)) fun a o q h => ?_) isC)
          rw [upd_ne (fun z => by rw [z, hc6] at q; cases q)]
          exact h
        · rw [List.length_append]
          show ls.length + 1 ≤ p2
          omega
        · rw [on4, cont_ok (sign_yes z59) he2]
      · have z59 : bs[sk bs q0]? ≠ some 59 := fun z => of_decide_eq_false c2 (show byV bs (sk bs q0) = V.int 59 from by_sign.mpr z)
        refine ⟨rfl, us, ls, q0, sk bs q0, F5, S5, sk_sk bs q0, hq0, hc5, P5, W4, D4, fun z => absurd rfl z, ?_⟩
        unfold FinL
        rw [on4, cont_end (sign_no z59)]
        cases needSign 93 (Lf bs q0) <;> rfl
  rintro _ H4 ⟨rfl, us, ls, q0, q, F4, S4, eq4, hq0, hc4, P4, W4, D4, n4, fin⟩
  have hx4 : H4 x = some (.ins (He.ga K "Coat") dxc (coaF n .non .non ml cl)) := F4 _ _ (by simp [xs, xc]) hx
  have eln := P4.len
  walk_at "rd"
  refine ⟨s, dx, c, bs, q, 93, rfl, S4, fun z => (fun a H' b hd => kE (10, sk bs q) ?_ a H' (F4.trans (.of b (by simp))) hd), fun z93 H5 b5 S5 => ?_⟩
  · rw [eq4] at z ⊢
    rw [fin, need_no z]
  rw [eq4] at z93 S5
  have F5 : BtM [s, cl] H H5 := F4.trans (.of b5 (by simp))
  have hx5 := b5 _ _ xs hx4
  have hc5 := b5 _ _ cs hc4
  have P5 := IsCoats.up ((BtM.of b5 (M := [s, cl]) (by simp)).dn G0) P4
  unfold FinL at fin
  rw [need_yes z93] at fin
  dsimp only at fin
  have bad : ¬ (2 ≤ ls.length ∧ ls.length ≤ 9) → (tMkO (He.ga K (Str.ofString "Fault")) (spErr2 K (Str.ofString "Fault")) [] (tCons (tC (V.int 14)) (tCons (tVar 3) tNil)) [some (.ref s), some (.ref x), some (.int ((4 : Int) - (d : Nat))), some (.int (pl : Int))] H5 fun cls d H' => E cls d H') := fun z =>
    ⟨_, rfl, raise2 fun a H' sa _ ha => kE (14, pl) (by rw [fin, if_pos (by omega)]) a H' (F5.trans (.same sa)) ha⟩
  walk_at "rd"
  refine iteB (fun c1 => ?_) fun c1 => ?_
  · have c1' := of_decide_eq_true c1
    walk_at "rd"
    show if (!decide ((us.length : Int) ≤ 9)) = true then _ else _
    refine iteB (fun c2 => bad fun z => ?_) fun c2 => ?_
    · have y := of_decide_eq_false (ndt c2)
      omega
    · have c2' := of_decide_eq_true (ndf c2)
      have l29 : 2 ≤ ls.length ∧ ls.length ≤ 9 := by omega
      refine kO ls (sk bs q0 + 1) (by rw [fin, if_neg (by omega)]) ?_ H5 (sk bs q0 + 1) us rfl F5 S5 hc5 P5 W4 D4 l29 n4
      have := sk_ge bs q0
      omega
  · refine ⟨_, rfl, ?_⟩
    refine iteB (fun _ => bad fun z => ?_) fun c2 => (by cases c2)
    have y := of_decide_eq_false c1
    omega
end
end Hc

namespace Hc
open PySem PySem.Spec PyProof.Rows L2
open Sh ShMarsh ShBlazon
set_option hygiene false
local macro_rules | `(tactic| walk_at "hp") => `(tactic| first | assumption | exact Src.ob (by assumption) | exact Rdr.ob (by assumption) | exact upd_same)
local macro_rules | `(tactic| walk_at "sq") => `(tactic| first | assumption | exact Src.sq (by assumption) | exact Rdr.sq (by assumption) | exact SqL.of (by assumption) | exact SqL.of upd_same | exact SqT.of (by assumption) | exact SqT.of upd_same)
local macro_rules | `(tactic| walk_at "cl") => `(tactic| with_reducible first | exact T.c_Bytes | exact T.c_Coat | exact T.c_Arms | exact T.c_Layer | exact T.c_Token | exact T.c_Reader | exact T.c_Words)
local macro_rules | `(tactic| walk_at "na") => `(tactic| with_reducible first | exact T.n_Bytes_some | exact T.n_Bytes_at | exact T.n_Coat_kind | exact T.n_Coat_arms | exact T.n_Coat_canton | exact T.n_Coat_marks | exact T.n_Coat_coats | exact T.n_Arms_field | exact T.n_Arms_layers | exact T.n_Layer_kind | exact T.n_Layer_numbers | exact T.n_Layer_fill | exact T.n_Token_kind | exact T.n_Token_value | exact T.n_Token_place | exact T.n_Token_behind | exact T.n_Reader_some | exact T.n_Reader_at | exact T.n_Reader_end | exact T.n_Words_some | exact T.n_Words_at)
local macro_rules | `(tactic| walk_at "ai") => `(tactic| first | assumption | exact atI_nat (by assumption) | rfl)
local macro_rules | `(tactic| walk_at "rd1") => `(tactic| first
  | refine ⟨_, rfl, ?_⟩
  | refine ⟨rfl, ?_⟩
  | refine ⟨_, _, rfl, rfl, ?_⟩
  | refine ⟨_, _, _, _, _, rfl, (by walk_at "hp"), (by walk_at "cl"), (by walk_at "na"), (by rfl), ?_⟩
  | refine ⟨_, _, _, _, rfl, (by walk_at "hp"), (by walk_at "cl"), (by walk_at "na"), Nat.le_of_ble_eq_true rfl, ?_⟩
  | refine ⟨_, _, _, _, rfl, rfl, (by walk_at "sq"), (by walk_at "ai"), ?_⟩
  | refine ⟨_, _, rfl, (by first | exact Or.inl (by walk_at "sq") | exact Or.inr (by walk_at "sq")), ?_⟩
  | refine ⟨(by walk_at "ar"), ?_⟩)
local macro_rules | `(tactic| walk_at "ar") => `(tactic| first | exact (show CDiv _ _ from ⟨by decide, by decide⟩) | exact (show (0 : Int) < _ from by decide) | exact (show CMul _ _ from .inl ⟨by omega, by omega⟩) | exact (show CMul _ _ from .inr ⟨by omega, by omega⟩))
local macro_rules | `(tactic| walk_at "rd") => `(tactic| repeat walk_at "rd1")
local macro_rules | `(tactic| walk_at "fa") => `(tactic| first | exact ⟨_, rfl, (by omega), rfl⟩ | exact ⟨_, _, rfl, (by omega), rfl⟩ | exact ⟨_, _, _, rfl, (by omega), rfl⟩ | exact ⟨_, _, _, _, rfl, (by omega), rfl⟩ | exact ⟨_, _, _, _, _, rfl, (by omega), rfl⟩)
local macro_rules | `(tactic| walk_at "vr") => `(tactic| first
  | exact v_var (by rfl)
  | exact v_c
  | (apply v_i0 <;> walk_at "vr")
  | (apply v_i <;> first | walk_at "ar" | walk_at "vr")
  | (apply v_neg <;> walk_at "vr")
  | (apply v_eq <;> walk_at "vr")
  | (apply v_eqB <;> walk_at "vr")
  | (apply v_ne <;> walk_at "vr")
  | (apply v_neB <;> walk_at "vr")
  | (apply v_chain (g := fun _ _ => _) (g' := fun _ _ => _) <;> walk_at "vr")
  | (apply v_and <;> walk_at "vr")
  | (apply v_or <;> walk_at "vr")
  | (apply v_not <;> walk_at "vr")
  | (apply v_ifI <;> walk_at "vr")
  | (apply v_ifB <;> walk_at "vr")
  | (apply v_call <;> first | walk_at "fa" | walk_at "vr")
  | (apply v_abs <;> walk_at "vr")
  | (apply v_min <;> walk_at "vr")
  | exact va_nil
  | (apply va_cons <;> walk_at "vr")
  | (apply a_test <;> walk_at "vr")
  | (apply a_B <;> walk_at "vr")
  | (apply a_and <;> walk_at "vr")
  | (apply a_or <;> walk_at "vr")
  | (apply a_not <;> walk_at "vr"))
local macro_rules | `(tactic| walk_at "rs") => `(tactic| first
  | (apply r_ret; walk_at "vr")
  | (apply r_set; walk_at "vr"; walk_at "rs")
  | (apply r_ifI; walk_at "vr"; intro _; walk_at "rs"; intro _; walk_at "rs")
  | (apply r_ifB; walk_at "vr"; intro _; walk_at "rs"; intro _; walk_at "rs"))

section
variable {P : Program} {w : World} {K : PySem.W.Frag} {mg : Str → Option Value} {base : Heap}
theorem let_at (bs : List UInt8) (p : Nat) : letN (byI bs p) = match bs[p]? with
    | some c => isLetter c
    | none => false := by
  unfold byI
  cases bs[p]? with
  | none => rfl
  | some c => exact let_byte c
theorem wd_nil {bs : List UInt8} {p : Nat} (h : letN (byI bs p) = false) : wd bs p = [] := by
  rw [let_at] at h
  unfold wd
  cases e : bs[p]? with
  | none =>
    rw [List.drop_eq_nil_of_le (List.getElem?_eq_none_iff.mp e)]
    rfl
  | some c =>
    rw [e] at h
    obtain ⟨r, hr⟩ := drop_get.mp e
    rw [hr, List.takeWhile_cons_of_neg]
    have h' : isLetter c = false := h
    rw [h']
    decide
theorem let_not40 {bs : List UInt8} {p : Nat} (h : letN (byI bs p) = true) : bs[p]? ≠ some 40 := fun z => by
  rw [let_at, z] at h
  revert h
  decide
theorem kind_words (n : Nat) : ascii (kindX n) = ascii "quarterly" ∨ ascii (kindX n) = ascii "impaled" ∨ ascii (kindX n) = ascii "pretence" := by
  unfold kindX
  split
  · exact .inl rfl
  · split
    · exact .inr (.inl rfl)
    · exact .inr (.inr rfl)
theorem kd_keys : [Str.ofString "quarterly", Str.ofString "impaled", Str.ofString "pretence"] = [ascii "quarterly", ascii "impaled", ascii "pretence"].map tx := by decide +kernel
theorem kind_of {u : List UInt8} (h : tx u ∈ [Str.ofString "quarterly", Str.ofString "impaled", Str.ofString "pretence"]) : ∃ n, (n = 1 ∨ n = 2 ∨ n = 3) ∧ u = ascii (kindX n) := by
  rw [kd_keys] at h
  obtain ⟨a, ha, e⟩ := List.mem_map.mp h
  have e' := tx_inj e
  subst e'
  rcases List.mem_cons.mp ha with h | ha
  · exact ⟨1, .inl rfl, h⟩
  rcases List.mem_cons.mp ha with h | ha
  · exact ⟨2, .inr (.inl rfl), h⟩
  · exact ⟨3, .inr (.inr rfl), List.mem_singleton.mp ha⟩
theorem not_kind {u : List UInt8} (h : tx u ∉ [Str.ofString "quarterly", Str.ofString "impaled", Str.ofString "pretence"]) : u ≠ ascii "quarterly" ∧ u ≠ ascii "impaled" ∧ u ≠ ascii "pretence" := by
  rw [kd_keys] at h
  refine ⟨fun z => h ?_, fun z => h ?_, fun z => h ?_⟩
  · rw [z]; simp
  · rw [z]; simp
  · rw [z]; simp
theorem words_pos (x : List UInt8) (h : x = ascii "quarterly" ∨ x = ascii "impaled" ∨ x = ascii "pretence") : 7 ≤ x.length := by
  rcases h with rfl | rfl | rfl <;> decide +kernel
theorem step_read_coat (T : Txt w K mg) (u_pass_blanks : Cal P w K mg base CX0 3 "pass_blanks" p_pass_blanks (spBlanks K)) (q_Fault : Exq P w K mg base 1 "Fault" p_Fault_init (spErr2 K "Fault")) (u_is_letter : Cal P w K mg base CX0 1 "is_letter" p_is_letter spLet) (u_read_marked : Cal P w K mg base (L2.CX P w) 15 "read_marked" p_read_marked (spMarkedW K)) (u_word_ahead : Cal P w K mg base CX0 4 "word_ahead" p_word_ahead (spWordA K)) (m_Coat : Mak P w K mg base 1 "Coat" p_Coat_init (spI_Coat K)) (d : Nat) (u_read_list : Cal P w K mg base (L2.CX P w) (20 + 2 * d) "read_list" p_read_list (spLx K d)) : Cal P w K mg base (L2.CX P w) (20 + 2 * d + 1) "read_coat" p_read_coat (spCoatW K d) := by
  refine T.d_read_coat.cal sc_read_coat (fun vs H Q E h => by obtain ⟨_, _, _, _, _, _, _, rfl, _⟩ := h; rfl) ?_
  intro cdv A outer s0 H vs Q E hr h
  have nd := sc_read_coat.nd
  have tk := tkX (P := P) (w := w) (K := K) (mg := mg) (base := base) (N := n_read_coat) (q := "read_coat") (sc := defScope s_read_coat) (f := He.ga K "read_coat") (cdv := cdv) (A := A) (outer := outer) (s := s0) (H := H) (E := E)
  have pX := paX (P := P) (w := w) (K := K) (mg := mg) (base := base) (N := n_read_coat) (q := "read_coat") (sc := defScope s_read_coat) (f := He.ga K "read_coat") (cdv := cdv) (A := A) (outer := outer) (s := s0) (H := H) (E := E)
  have po := poX (CX := L2.CX P w) (P := P) (w := w) (K := K) (mg := mg) (base := base) (N := n_read_coat) (q := "read_coat") (sc := defScope s_read_coat) (f := He.ga K "read_coat") (cdv := cdv) (A := A) (outer := outer) (s := s0) (H := H) (E := E)
  have h_pass_blanks : Room (3) _ := hr.mono (by omega)
  have h_Fault : Room (2) _ := hr.mono (by omega)
  have h_is_letter : Room (1) _ := hr.mono (by omega)
  have h_read_marked : Room (15) _ := hr.mono (by omega)
  have h_word_ahead : Room (4) _ := hr.mono (by omega)
  have h_Coat : Room (2) _ := hr.mono (by omega)
  have h_read_list : Room (20+2*d) _ := hr.mono (by omega)
  refine ⟨_, (pss_cons (ps_set (i := 2) nd rfl (Or.inl rfl) (pe_cal u_pass_blanks (h_pass_blanks) (p0X (E := E0)) (pa_cons (pv 0) pa_nil)))
      (pss_cons (ps_set (i := 3) nd rfl (Or.inl rfl) (pe_fld (pv 0) rfl))
      (pss_cons (ps_if (pt_cmpR op_gt (pv 1) (pe_gi T.i_MOST_DEEP) (nomark _)) (pss_one (ps_raise rfl tk (pmk_exq q_Fault (h_Fault) (by exact (pa_cons pe_int (pa_cons (pv 3) pa_nil)))))) pss_nil)
      (pss_cons (ps_if (pt_not (pt_val (pe_cal u_is_letter (h_is_letter) (p0X (E := E0)) (pa_cons (pv 2) pa_nil)))) (pss_one (ps_ret (pe_cal u_read_marked (h_read_marked) pX (pa_cons (pv 0) pa_nil)))) pss_nil)
      (pss_cons (ps_set (i := 4) nd rfl (Or.inl rfl) (pe_cal u_word_ahead (h_word_ahead) (p0X (E := E0)) (pa_cons (pv 0) pa_nil)))
      (pss_cons (ps_if (pt_cmpR (op_notIn_kd T.k_KINDS.choose_spec.choose_spec) (pv 4) (pe_gr T.g_KINDS) rfl) (pss_one (ps_raise rfl tk (pmk_exq q_Fault (h_Fault) (by exact (pa_cons pe_int (pa_cons (pv 3) pa_nil)))))) pss_nil)
      (pss_cons (ps_fld (pv 0) (pe_op op_add (pe_fld (pv 0) rfl) (pe_callB call_len_str (by rfl) T.f_len PySem.boot_len (pa_cons (pv 4) pa_nil))) rfl)
      (pss_cons (ps_set (i := 5) nd rfl (Or.inl rfl) (pe_mak m_Coat (h_Coat) (pa_cons (pe_ix ix_kdict (pe_gr T.g_KINDS) (pv 4) (fun _ _ => rfl)) pa_nil)))
      (pss_cons (ps_expr (pe_cal u_read_list (h_read_list) pX (pa_cons (pv 0) (pa_cons (pv 5) (pa_cons (pv 1) (pa_cons (pv 3) pa_nil))))))
      (pss_one (ps_ret (pv 5)))))))))))), ?_⟩
  try dsimp only [cxOf]
  clear h_read_list h_Coat h_word_ahead h_read_marked h_is_letter h_Fault h_pass_blanks po pX tk nd
  obtain ⟨f, s, dx, c, bs, p0, p, rfl, hf, S, ep, RP⟩ := h
  dsimp only at RP hf
  have kE := RP.err
  have kO := RP.ok
  clear RP
  obtain ⟨f, rfl⟩ : ∃ f', f = f' + 1 := ⟨f - 1, by omega⟩
  walk_at "rd"
  refine ⟨s, dx, c, bs, p, rfl, S, fun H1 b1 S1 => ?_⟩
  rw [ep] at S1 ⊢
  have hge := sk_ge bs p0
  walk_at "rd"
  cases d with
  | zero =>
    refine iteB (fun _ => ?_) fun c => absurd (of_decide_eq_false c) (by omega)
    walk_at "rd"
    exact raise2 fun a H' sa _ ha => kE (13, sk bs p0) (by rw [coat_0, skip_L]; rfl) a H' (b1.trans (.same sa)) ha
  | succ d =>
    refine iteB (fun c => absurd (of_decide_eq_true c) (by omega)) fun _ => ?_
    walk_at "rd"
    refine ⟨byI bs (sk bs p0), by rw [by_VI]; rfl, fun H2 s2 => ?_⟩
    have S2 := S1.same s2
    have B2 := b1.trans (.same s2)
    have qn : ∀ x : String, (ascii x = ascii "quarterly" ∨ ascii x = ascii "impaled" ∨ ascii x = ascii "pretence") → ascii x ≠ [] := fun x h z => by
      have := words_pos _ h
      rw [z] at this
      simp at this
    walk_at "rd"
    refine iteB (fun c1 => ?_) fun c1 => ?_
    · have hw := wd_nil (ndt c1)
      have eo : coatIn (f + 1) (d + 1) (Lf bs p0) = oneIn (Lf bs p0) := coat_one (word_no (by rw [hw]; exact Ne.symm (qn _ (.inl rfl)))) (word_no (by rw [hw]; exact Ne.symm (qn _ (.inr (.inl rfl))))) (word_no (by rw [hw]; exact Ne.symm (qn _ (.inr (.inr rfl)))))
      rw [eo] at kE kO
      walk_at "rd"
      refine ⟨(), s, dx, c, bs, p0, sk bs p0, rfl, trivial, S2, sk_sk bs p0, ⟨fun e he => (kE e he).bt B2, fun m p2 he hp2 v H3 p3 ep3 b3 S3 is => kO m p2 he hp2 v H3 p3 ep3 (B2.trans b3) S3 ⟨IsCoat.up (dn_back B2 S2.ob) is.1, is.2.1, by have := is.2.2; omega⟩⟩⟩
    · have c1' := ndf c1
      walk_at "rd"
      refine ⟨s, dx, c, bs, sk bs p0, rfl, S2, fun H3 b3 S3 => ?_⟩
      rw [sk_sk] at S3 ⊢
      have B3 := B2.trans b3
      walk_at "rd"
      by_cases hk : tx (wd bs (sk bs p0)) ∈ [Str.ofString "quarterly", Str.ofString "impaled", Str.ofString "pretence"]
      · obtain ⟨n, hn, hu⟩ := kind_of hk
        have ek := coat_kind (f := f) (d := d) hn hu
        have hwl := wd_len (bs := bs) (k := sk bs p0)
        have h7 := words_pos _ (kind_words n)
        have hle := S3.le
        rw [hu] at hwl ⊢
        have kd : KDct K w (He.ga K (Str.ofString "KINDS")) (tx (ascii (kindX n))) (.int (n : Int)) ∧ ∃ u, PySem.W.nsIn K (He.ga K (Str.ofString "KINDS")) (tx (ascii (kindX n))) = some (some u) := by
          rcases hn with rfl | rfl | rfl
          · rw [show tx (ascii (kindX 1)) = Str.ofString "quarterly" by decide +kernel]
            exact ⟨kdct T.k_KINDS T.v_KINDS_quarterly, let ⟨u, h, _⟩ := T.v_KINDS_quarterly; ⟨u, h⟩⟩
          · rw [show tx (ascii (kindX 2)) = Str.ofString "impaled" by decide +kernel]
            exact ⟨kdct T.k_KINDS T.v_KINDS_impaled, let ⟨u, h, _⟩ := T.v_KINDS_impaled; ⟨u, h⟩⟩
          · rw [show tx (ascii (kindX 3)) = Str.ofString "pretence" by decide +kernel]
            exact ⟨kdct T.k_KINDS T.v_KINDS_pretence, let ⟨u, h, _⟩ := T.v_KINDS_pretence; ⟨u, h⟩⟩
        obtain ⟨kd, ku, hku⟩ := kd
        refine ⟨_, _, rfl, rfl, hku, _, rfl, ?_⟩
        walk_at "rd"
        refine ⟨(by rw [tx_len]; have := S.big; have big : sizeLine = 16777216 := by decide
                    omega), ?_⟩
        walk_at "rd"
        generalize hH4 : upd H3 s _ = H4
        have b4 : Bt s H3 H4 := by rw [← hH4]; exact Bt.refl.put
        have S4 : Src K (WordsC K) H4 s dx c bs (sk bs p0 + (ascii (kindX n)).length) := by
          rw [← hH4]
          exact S3.put (by rw [tx_len]; rfl) (by omega)
        clear hH4
        have B4 := B3.trans b4
        refine ⟨_, _, _, rfl, rfl, kd, ?_⟩
        refine mk_Coat (n := n) fun x dxc ml cl H5 nx nm nc mc sa hx hm hc => ?_
        have n4 := B4.none S4.ob
        have xs : x ≠ s := fun z => by rw [z, S4.ob] at nx; cases nx
        have ms' : ml ≠ s := fun z => by rw [z, S4.ob] at nm; cases nm
        have cs : cl ≠ s := fun z => by rw [z, S4.ob] at nc; cases nc
        have xc : x ≠ cl := ne_of hx hc (by intro z; cases z)
        have S5 := S4.same sa
        have drop : ∀ {H'}, BtM [s, cl] H5 H' → Bt s H H' := fun {H'} e => BtM.drop B4 (fun m hm => by
          rcases List.mem_cons.mp hm with q | hm
          · exact .inl q
          · exact .inr (List.mem_singleton.mp hm ▸ nc)) ((BtM.same sa).trans e)
        walk_at "rd"
        refine ⟨f, s, dx, c, bs, _, n, x, dxc, ml, cl, sk bs p0, (by simp; omega), by omega, S5, hn, hx, hc, fun H' e => (drop e).seq S.ob S.sq, fun e he a H' b hd => kE e (by rw [ek, he]) a H' (drop b) hd, fun ls p2 he hp2 H6 p3 us ep3 F6 S6 hc6 P6 W6 D6 l29 n2 => ?_⟩
        have hx6 := F6 _ _ (by simp [xs, xc]) hx
        have hm6 := F6 _ _ (by simp [ms', mc]) hm
        have U : Same (Dn H5 H6) (Dn H H6) := dn_mono (fun a h => n4 a (sa.free h)) fun _ _ _ h => h
        obtain ⟨wk, dk⟩ := wf_mk hn n2 l29 W6 D6
        walk_at "rd"
        refine kO (mkCoat n ls) p2 (by rw [ek, he]) (by omega) _ H6 p3 ep3 (drop F6) S6 ⟨isCoat_mk ?_ (dn_of (n4 x nx) hx6) (dn_of (n4 ml nm) hm6) (dn_of (n4 cl nc) hc6) (IsCoats.up U P6), wk, dk⟩
        by_cases hn1 : n = 1
        · exact .inl hn1
        · exact .inr ⟨by omega, n2 hn1⟩
      · obtain ⟨h1, h2, h3⟩ := not_kind hk
        have eo : coatIn (f + 1) (d + 1) (Lf bs p0) = oneIn (Lf bs p0) := coat_one (word_no h1) (word_no h2) (word_no h3)
        have nk := no_key T.u_KINDS hk
        refine ⟨_, _, rfl, rfl, nk, _, rfl, ?_⟩
        walk_at "rd"
        exact raise2 fun a H' sa _ ha => kE (10, sk bs p0) (by rw [eo]; exact one_err (arms_no (let_not40 c1'))) a H' (B3.trans (.same sa)) ha
end
end Hc

namespace Hc
open PySem PySem.Spec PyProof.Rows L2
open Sh ShMarsh ShBlazon
set_option hygiene false
local macro_rules | `(tactic| walk_at "hp") => `(tactic| first | assumption | exact Src.ob (by assumption) | exact Rdr.ob (by assumption) | exact upd_same)
local macro_rules | `(tactic| walk_at "sq") => `(tactic| first | assumption | exact Src.sq (by assumption) | exact Rdr.sq (by assumption) | exact SqL.of (by assumption) | exact SqL.of upd_same | exact SqT.of (by assumption) | exact SqT.of upd_same)
local macro_rules | `(tactic| walk_at "cl") => `(tactic| with_reducible first | exact T.c_Bytes | exact T.c_Coat | exact T.c_Arms | exact T.c_Layer | exact T.c_Token | exact T.c_Reader | exact T.c_Words)
local macro_rules | `(tactic| walk_at "na") => `(tactic| with_reducible first | exact T.n_Bytes_some | exact T.n_Bytes_at | exact T.n_Coat_kind | exact T.n_Coat_arms | exact T.n_Coat_canton | exact T.n_Coat_marks | exact T.n_Coat_coats | exact T.n_Arms_field | exact T.n_Arms_layers | exact T.n_Layer_kind | exact T.n_Layer_numbers | exact T.n_Layer_fill | exact T.n_Token_kind | exact T.n_Token_value | exact T.n_Token_place | exact T.n_Token_behind | exact T.n_Reader_some | exact T.n_Reader_at | exact T.n_Reader_end | exact T.n_Words_some | exact T.n_Words_at)
local macro_rules | `(tactic| walk_at "ai") => `(tactic| first | assumption | exact atI_nat (by assumption) | rfl)
local macro_rules | `(tactic| walk_at "rd1") => `(tactic| first
  | refine ⟨_, rfl, ?_⟩
  | refine ⟨rfl, ?_⟩
  | refine ⟨_, _, rfl, rfl, ?_⟩
  | refine ⟨_, _, _, _, _, rfl, (by walk_at "hp"), (by walk_at "cl"), (by walk_at "na"), (by rfl), ?_⟩
  | refine ⟨_, _, _, _, rfl, (by walk_at "hp"), (by walk_at "cl"), (by walk_at "na"), Nat.le_of_ble_eq_true rfl, ?_⟩
  | refine ⟨_, _, _, _, rfl, rfl, (by walk_at "sq"), (by walk_at "ai"), ?_⟩
  | refine ⟨_, _, rfl, (by first | exact Or.inl (by walk_at "sq") | exact Or.inr (by walk_at "sq")), ?_⟩
  | refine ⟨(by walk_at "ar"), ?_⟩)
local macro_rules | `(tactic| walk_at "ar") => `(tactic| first | exact (show CDiv _ _ from ⟨by decide, by decide⟩) | exact (show (0 : Int) < _ from by decide) | exact (show CMul _ _ from .inl ⟨by omega, by omega⟩) | exact (show CMul _ _ from .inr ⟨by omega, by omega⟩))
local macro_rules | `(tactic| walk_at "rd") => `(tactic| repeat walk_at "rd1")
local macro_rules | `(tactic| walk_at "fa") => `(tactic| first | exact ⟨_, rfl, (by omega), rfl⟩ | exact ⟨_, _, rfl, (by omega), rfl⟩ | exact ⟨_, _, _, rfl, (by omega), rfl⟩ | exact ⟨_, _, _, _, rfl, (by omega), rfl⟩ | exact ⟨_, _, _, _, _, rfl, (by omega), rfl⟩)
local macro_rules | `(tactic| walk_at "vr") => `(tactic| first
  | exact v_var (by rfl)
  | exact v_c
  | (apply v_i0 <;> walk_at "vr")
  | (apply v_i <;> first | walk_at "ar" | walk_at "vr")
  | (apply v_neg <;> walk_at "vr")
  | (apply v_eq <;> walk_at "vr")
  | (apply v_eqB <;> walk_at "vr")
  | (apply v_ne <;> walk_at "vr")
  | (apply v_neB <;> walk_at "vr")
  | (apply v_chain (g := fun _ _ => _) (g' := fun _ _ => _) <;> walk_at "vr")
  | (apply v_and <;> walk_at "vr")
  | (apply v_or <;> walk_at "vr")
  | (apply v_not <;> walk_at "vr")
  | (apply v_ifI <;> walk_at "vr")
  | (apply v_ifB <;> walk_at "vr")
  | (apply v_call <;> first | walk_at "fa" | walk_at "vr")
  | (apply v_abs <;> walk_at "vr")
  | (apply v_min <;> walk_at "vr")
  | exact va_nil
  | (apply va_cons <;> walk_at "vr")
  | (apply a_test <;> walk_at "vr")
  | (apply a_B <;> walk_at "vr")
  | (apply a_and <;> walk_at "vr")
  | (apply a_or <;> walk_at "vr")
  | (apply a_not <;> walk_at "vr"))
local macro_rules | `(tactic| walk_at "rs") => `(tactic| first
  | (apply r_ret; walk_at "vr")
  | (apply r_set; walk_at "vr"; walk_at "rs")
  | (apply r_ifI; walk_at "vr"; intro _; walk_at "rs"; intro _; walk_at "rs")
  | (apply r_ifB; walk_at "vr"; intro _; walk_at "rs"; intro _; walk_at "rs"))

section
variable {P : Program} {w : World} {K : PySem.W.Frag} {mg : Str → Option Value} {base : Heap}
theorem all_read_coat (T : Txt w K mg) (u_pass_blanks : Cal P w K mg base CX0 3 "pass_blanks" p_pass_blanks (spBlanks K)) (q_Fault : Exq P w K mg base 1 "Fault" p_Fault_init (spErr2 K "Fault")) (u_is_letter : Cal P w K mg base CX0 1 "is_letter" p_is_letter spLet) (u_read_marked : Cal P w K mg base (L2.CX P w) 15 "read_marked" p_read_marked (spMarkedW K)) (u_word_ahead : Cal P w K mg base CX0 4 "word_ahead" p_word_ahead (spWordA K)) (m_Coat : Mak P w K mg base 1 "Coat" p_Coat_init (spI_Coat K)) (u_take_sign : Cal P w K mg base (L2.CX P w) 4 "take_sign" p_take_sign (spSign K)) : ∀ d : Nat, Cal P w K mg base (L2.CX P w) (20 + 2 * d + 1) "read_coat" p_read_coat (spCoatW K d)
  | 0 => by
    have u0 : Cal P w K mg base (L2.CX P w) (20 + 2 * 0) "read_list" p_read_list (spLx K 0) := by
      obtain ⟨⟨fd, F, b⟩, g⟩ := T.d_read_list
      exact ⟨⟨fd, ⟨fun _ _ _ _ h => h.elim, fun _ _ _ _ _ _ _ _ _ _ _ _ _ h => h.elim⟩, b⟩, g, F.kp⟩
    exact step_read_coat T u_pass_blanks q_Fault u_is_letter u_read_marked u_word_ahead m_Coat 0 u0
  | d + 1 => by
    have u1 := all_read_coat T u_pass_blanks q_Fault u_is_letter u_read_marked u_word_ahead m_Coat u_take_sign d
    have u2 := step_read_list T u_take_sign u_pass_blanks q_Fault d (u1.mono (by omega))
    exact step_read_coat T u_pass_blanks q_Fault u_is_letter u_read_marked u_word_ahead m_Coat (d + 1) (u2.mono (by omega))
/-- a coat of these words, or the first fault -/
def spCoatOfW (K : PySem.W.Frag) : Sp := fun vs H Q E => ∃ (c : Addr) (bs : List UInt8), vs = [.ref c] ∧ SqL K H c (bs.map bv) ∧ bs.length ≤ 5000 ∧
  (∀ e, ShMarsh.read bs = .error e → ∀ (d : Addr) H', Same H H' → H' d = some (.xd [("place", .int ((e.2 : Nat) : Int)), ("kind", .int ((e.1 : Nat) : Int))]) → E (.ref (He.ga K "Fault")) (some d) H') ∧
  (∀ co, ShMarsh.read bs = .ok co → ∀ v H', Same H H' → IsCoat K H' v co → WfCoat co → co.deep ≤ 4 → Q v H')
theorem ok_coat_of_words (T : Txt w K mg) (m_Words : Mak P w K mg base 1 "Words" p_Words_init (spI_Bytes K "Words")) (u_read_coat : Cal P w K mg base (L2.CX P w) 29 "read_coat" p_read_coat (spCoatW K 4)) (u_pass_blanks : Cal P w K mg base CX0 3 "pass_blanks" p_pass_blanks (spBlanks K)) (q_Fault : Exq P w K mg base 1 "Fault" p_Fault_init (spErr2 K "Fault")) : Cal P w K mg base (L2.CX P w) 30 "coat_of_words" p_coat_of_words (spCoatOfW K) := by
  refine T.d_coat_of_words.cal sc_coat_of_words (fun vs H Q E h => by obtain ⟨_, _, rfl, _⟩ := h; rfl) ?_
  intro cdv A outer s0 H vs Q E hr h
  have nd := sc_coat_of_words.nd
  have tk := tkX (P := P) (w := w) (K := K) (mg := mg) (base := base) (N := n_coat_of_words) (q := "coat_of_words") (sc := defScope s_coat_of_words) (f := He.ga K "coat_of_words") (cdv := cdv) (A := A) (outer := outer) (s := s0) (H := H) (E := E)
  have pX := paX (P := P) (w := w) (K := K) (mg := mg) (base := base) (N := n_coat_of_words) (q := "coat_of_words") (sc := defScope s_coat_of_words) (f := He.ga K "coat_of_words") (cdv := cdv) (A := A) (outer := outer) (s := s0) (H := H) (E := E)
  have po := poX (CX := L2.CX P w) (P := P) (w := w) (K := K) (mg := mg) (base := base) (N := n_coat_of_words) (q := "coat_of_words") (sc := defScope s_coat_of_words) (f := He.ga K "coat_of_words") (cdv := cdv) (A := A) (outer := outer) (s := s0) (H := H) (E := E)
  have h_Words : Room (2) _ := hr.mono (by omega)
  have h_read_coat : Room (29) _ := hr.mono (by omega)
  have h_pass_blanks : Room (3) _ := hr.mono (by omega)
  have h_Fault : Room (2) _ := hr.mono (by omega)
  refine ⟨_, (pss_cons (ps_set (i := 1) nd rfl (Or.inl rfl) (pe_mak m_Words (h_Words) (pa_cons (pv 0) pa_nil)))
      (pss_cons (ps_set (i := 2) nd rfl (Or.inl rfl) (pe_cal u_read_coat (h_read_coat) pX (pa_cons (pv 1) (pa_cons pe_int pa_nil))))
      (pss_cons (ps_if (pt_cmpR op_ne (pe_cal u_pass_blanks (h_pass_blanks) (p0X (E := E0)) (pa_cons (pv 1) pa_nil)) (pe_un un_neg pe_int) (nomark _)) (pss_one (ps_raise rfl tk (pmk_exq q_Fault (h_Fault) (by exact (pa_cons pe_int (pa_cons (pe_fld (pv 1) rfl) pa_nil)))))) pss_nil)
      (pss_one (ps_ret (pv 2)))))), ?_⟩
  try dsimp only [cxOf]
  clear h_Fault h_pass_blanks h_read_coat h_Words po pX tk nd
  obtain ⟨c, bs, rfl, hS, hb, kE, kQ⟩ := h
  have e0 : ((0, bs) : Left) = Lf bs 0 := rfl
  walk_at "rd"
  refine mk_Bytes fun x dx H1 nx sa hx => ?_
  have S1 : Src K (WordsC K) H1 x dx c bs 0 := ⟨hx, sa.seq hS, Nat.zero_le _, hb⟩
  have up : ∀ {H2}, Bt x H1 H2 → Same H H2 := fun {H2} e b o h => e b o (ne_of_none h nx) (sa b o h)
  walk_at "rd"
  refine ⟨2 * bs.length + 4, x, dx, c, bs, 0, 0, rfl, by omega, S1, rfl, ⟨fun e he d H2 b2 hd => kE e (by unfold ShMarsh.read; rw [e0, show coatIn (2 * bs.length + 4) DEEP (Lf bs 0) = .error e from he]) d H2 (up b2) hd, fun co p2 he _ v H2 p3 ep b2 S2 is => ?_⟩⟩
  have he' : coatIn (2 * bs.length + 4) DEEP (Lf bs 0) = .ok (co, Lf bs p2) := he
  walk_at "rd"
  refine ⟨x, dx, c, bs, p3, rfl, S2, fun H3 b3 S3 => ?_⟩
  rw [ep] at S3 ⊢
  have B3 := b2.trans b3
  walk_at "rd"
  refine ⟨by rw [by_VI]; rfl, _, rfl, ?_⟩
  refine iteB (fun c1 => ?_) fun c1 => ?_
  · have c1' : sk bs p2 < bs.length := by
      refine Classical.byContradiction fun z => ?_
      have e : byV bs (sk bs p2) = .int (-1) := by
        unfold byV
        rw [List.getElem?_eq_none (by omega)]
      rw [e] at c1
      exact absurd c1 (by decide)
    walk_at "rd"
    refine raise2 fun a H' sb _ ha => kE (10, sk bs p2) ?_ a H' (fun b o h => sb b o (up B3 b o h)) ha
    unfold ShMarsh.read
    rw [e0, he']
    dsimp only
    rw [skip_L, if_neg]
    · rfl
    · intro z
      have := congrArg List.length z
      unfold Lf at this
      simp at this
      omega
  · have c1' : ¬ sk bs p2 < bs.length := fun z => by
      have y := of_decide_eq_true (ndf c1)
      rw [by_VI] at y
      unfold byI at y
      rw [List.getElem?_eq_getElem z] at y
      injection y with y
      dsimp only at y
      omega
    walk_at "rd"
    refine kQ co ?_ v H3 (up B3) (IsCoat.up (fun a o h => b3 a o ?_ (of_dn h).2) is.1) is.2.1 is.2.2
    · unfold ShMarsh.read
      rw [e0, he']
      dsimp only
      rw [skip_L, if_pos]
      exact List.drop_eq_nil_of_le (by omega)
    · intro z
      rw [z] at h
      exact absurd (of_dn h).1 (by rw [S1.ob]; simp)
end
end Hc

namespace Hc
open PySem PySem.Spec PyProof.Rows L2
open Sh ShMarsh
set_option hygiene false
local macro_rules | `(tactic| walk_at "hp") => `(tactic| first | assumption | exact Src.ob (by assumption) | exact Rdr.ob (by assumption) | exact upd_same)
local macro_rules | `(tactic| walk_at "sq") => `(tactic| first | assumption | exact Src.sq (by assumption) | exact Rdr.sq (by assumption) | exact SqL.of (by assumption) | exact SqL.of upd_same | exact SqT.of (by assumption) | exact SqT.of upd_same)
local macro_rules | `(tactic| walk_at "cl") => `(tactic| with_reducible first | exact T.c_Bytes | exact T.c_Coat | exact T.c_Arms | exact T.c_Layer | exact T.c_Token | exact T.c_Reader | exact T.c_Words)
local macro_rules | `(tactic| walk_at "na") => `(tactic| with_reducible first | exact T.n_Bytes_some | exact T.n_Bytes_at | exact T.n_Coat_kind | exact T.n_Coat_arms | exact T.n_Coat_canton | exact T.n_Coat_marks | exact T.n_Coat_coats | exact T.n_Arms_field | exact T.n_Arms_layers | exact T.n_Layer_kind | exact T.n_Layer_numbers | exact T.n_Layer_fill | exact T.n_Token_kind | exact T.n_Token_value | exact T.n_Token_place | exact T.n_Token_behind | exact T.n_Reader_some | exact T.n_Reader_at | exact T.n_Reader_end | exact T.n_Words_some | exact T.n_Words_at)
local macro_rules | `(tactic| walk_at "ai") => `(tactic| first | assumption | exact atI_nat (by assumption) | rfl)
local macro_rules | `(tactic| walk_at "rd1") => `(tactic| first
  | refine ⟨_, rfl, ?_⟩
  | refine ⟨rfl, ?_⟩
  | refine ⟨_, _, rfl, rfl, ?_⟩
  | refine ⟨_, _, _, _, _, rfl, (by walk_at "hp"), (by walk_at "cl"), (by walk_at "na"), (by rfl), ?_⟩
  | refine ⟨_, _, _, _, rfl, (by walk_at "hp"), (by walk_at "cl"), (by walk_at "na"), Nat.le_of_ble_eq_true rfl, ?_⟩
  | refine ⟨_, _, _, _, rfl, rfl, (by walk_at "sq"), (by walk_at "ai"), ?_⟩
  | refine ⟨_, _, rfl, (by first | exact Or.inl (by walk_at "sq") | exact Or.inr (by walk_at "sq")), ?_⟩
  | refine ⟨(by walk_at "ar"), ?_⟩)
local macro_rules | `(tactic| walk_at "ar") => `(tactic| first | exact (show CDiv _ _ from ⟨by decide, by decide⟩) | exact (show (0 : Int) < _ from by decide) | exact (show CMul _ _ from .inl ⟨by omega, by omega⟩) | exact (show CMul _ _ from .inr ⟨by omega, by omega⟩))
local macro_rules | `(tactic| walk_at "rd") => `(tactic| repeat walk_at "rd1")
local macro_rules | `(tactic| walk_at "fa") => `(tactic| first | exact ⟨_, rfl, (by omega), rfl⟩ | exact ⟨_, _, rfl, (by omega), rfl⟩ | exact ⟨_, _, _, rfl, (by omega), rfl⟩ | exact ⟨_, _, _, _, rfl, (by omega), rfl⟩ | exact ⟨_, _, _, _, _, rfl, (by omega), rfl⟩)
local macro_rules | `(tactic| walk_at "vr") => `(tactic| first
  | exact v_var (by rfl)
  | exact v_c
  | (apply v_i0 <;> walk_at "vr")
  | (apply v_i <;> first | walk_at "ar" | walk_at "vr")
  | (apply v_neg <;> walk_at "vr")
  | (apply v_eq <;> walk_at "vr")
  | (apply v_eqB <;> walk_at "vr")
  | (apply v_ne <;> walk_at "vr")
  | (apply v_neB <;> walk_at "vr")
  | (apply v_chain (g := fun _ _ => _) (g' := fun _ _ => _) <;> walk_at "vr")
  | (apply v_and <;> walk_at "vr")
  | (apply v_or <;> walk_at "vr")
  | (apply v_not <;> walk_at "vr")
  | (apply v_ifI <;> walk_at "vr")
  | (apply v_ifB <;> walk_at "vr")
  | (apply v_call <;> first | walk_at "fa" | walk_at "vr")
  | (apply v_abs <;> walk_at "vr")
  | (apply v_min <;> walk_at "vr")
  | exact va_nil
  | (apply va_cons <;> walk_at "vr")
  | (apply a_test <;> walk_at "vr")
  | (apply a_B <;> walk_at "vr")
  | (apply a_and <;> walk_at "vr")
  | (apply a_or <;> walk_at "vr")
  | (apply a_not <;> walk_at "vr"))
local macro_rules | `(tactic| walk_at "rs") => `(tactic| first
  | (apply r_ret; walk_at "vr")
  | (apply r_set; walk_at "vr"; walk_at "rs")
  | (apply r_ifI; walk_at "vr"; intro _; walk_at "rs"; intro _; walk_at "rs")
  | (apply r_ifB; walk_at "vr"; intro _; walk_at "rs"; intro _; walk_at "rs"))

section
variable {P : Program} {w : World} {K : PySem.W.Frag} {mg : Str → Option Value} {base : Heap}
theorem bv_small {n : Nat} (h : n < 256) : bv (small n) = iv n := by
  unfold bv iv small
  rw [UInt8.toNat_ofNat']
  have : n % 2 ^ 8 = n := Nat.mod_eq_of_lt h
  rw [this]
theorem fieldV_bytes {f : Field} (h : WfField f) : fieldV f = f.bytes.map bv := by
  cases f with
  | plain t =>
    have h1 : @LE.le Nat instLENat t 8 := h
    show [iv 0, iv t] = [bv 0, bv (small t)]
    rw [bv_small (by omega)]
    rfl
  | parted d l a b =>
    obtain ⟨h1, h2, h3, h4, _⟩ := h
    have h3' : @LE.le Nat instLENat a 8 := h3
    have h4' : @LE.le Nat instLENat b 8 := h4
    show [iv 1, iv d, iv l, iv a, iv b] = [bv 1, bv (small d), bv (small l), bv (small a), bv (small b)]
    rw [bv_small (by omega), bv_small (by omega), bv_small (by omega), bv_small (by omega)]
    rfl
  | varied v n l a b =>
    obtain ⟨h1, h2, h3, h4, h5, _⟩ := h
    have h4' : @LE.le Nat instLENat a 8 := h4
    have h5' : @LE.le Nat instLENat b 8 := h5
    show [iv 2, iv v, iv n, iv l, iv a, iv b] = [bv 2, bv (small v), bv (small n), bv (small l), bv (small a), bv (small b)]
    rw [bv_small (by omega), bv_small (by omega), bv_small (by omega), bv_small (by omega), bv_small (by omega)]
    rfl
theorem field_blen (f : Field) : f.bytes.length ≤ 6 := by cases f <;> simp [Field.bytes]
theorem fill_blen (f : Fill) : f.bytes.length ≤ 7 := by
  cases f with
  | solid g =>
    have := field_blen g
    show g.bytes.length + 1 ≤ 7
    omega
  | counter => show 1 ≤ 7; decide
theorem layer_blen (l : Layer) : l.bytes.length ≤ 12 := by
  cases l with
  | ord o x f =>
    have := fill_blen f
    show ([0, small o, small x] ++ f.bytes).length ≤ 12
    rw [List.length_append]
    show 3 + f.bytes.length ≤ 12
    omega
  | group a b c d f =>
    have := fill_blen f
    show ([1, small a, small b, small c, small d] ++ f.bytes).length ≤ 12
    rw [List.length_append]
    show 5 + f.bytes.length ≤ 12
    omega
theorem layer_bytesV {b : Field} {l : Layer} (h : WfLayer b l) : l.bytes.map bv = ([iv (layK l)] ++ layN l) ++ l.fill.bytes.map bv := by
  cases l with
  | ord o x f =>
    obtain ⟨h1, h2, _⟩ := h
    show ([0, small o, small x] ++ f.bytes).map bv = _
    rw [List.map_append]
    show [bv 0, bv (small o), bv (small x)] ++ f.bytes.map bv = _
    rw [bv_small (by omega), bv_small (by omega)]
    rfl
  | group a n c d f =>
    obtain ⟨h1, h2, h3, h4, _⟩ := h
    show ([1, small a, small n, small c, small d] ++ f.bytes).map bv = _
    rw [List.map_append]
    show [bv 1, bv (small a), bv (small n), bv (small c), bv (small d)] ++ f.bytes.map bv = _
    rw [bv_small (by omega), bv_small (by omega), bv_small (by omega), bv_small (by omega)]
    rfl
theorem cat_two {H : Hp} {x y : Addr} {xs ys : List V} {Q : VK} (hx : H x = some (.lst xs)) (hy : H y = some (.lst ys)) (hl : xs.length + ys.length ≤ sizeLine) (k : ∀ p, H p = none → Q (.ref p) (upd H p (.lst (xs ++ ys)))) : rCat (.ref x) (.ref y) H Q :=
  ⟨x, y, xs, ys, rfl, rfl, hx, hy, hl, k⟩
/-- the bytes in a new list -/
def spB {α : Type} (Is : Hp → V → α → Prop) (f : α → List UInt8) : Sp := fun vs H Q _ => ∃ (v : V) (a : α), vs = [v] ∧ Is H v a ∧ ∀ p H', Same H H' → H p = none → H' p = some (.lst ((f a).map bv)) → Q (.ref p) H'
abbrev spLayerB (K : PySem.W.Frag) : Sp := spB (α := Layer × Field) (fun H v l => IsLayer K H v l.1 ∧ WfLayer l.2 l.1) (fun l => l.1.bytes)
abbrev spArmsB (K : PySem.W.Frag) : Sp := spB (α := Arms) (fun H v a => IsArms K H v a ∧ WfArms a) Arms.bytes
theorem ok_layer_bytes (T : Txt w K mg)  : Cal P w K mg base CX0 1 "layer_bytes" p_layer_bytes (spLayerB K) := by
  refine T.d_layer_bytes.cal sc_layer_bytes (fun vs H Q E h => by obtain ⟨_, _, rfl, _⟩ := h; rfl) ?_
  intro cdv A outer s0 H vs Q E hr h
  have nd := sc_layer_bytes.nd
  have po := poX (CX := CX0) (P := P) (w := w) (K := K) (mg := mg) (base := base) (N := n_layer_bytes) (q := "layer_bytes") (sc := defScope s_layer_bytes) (f := He.ga K "layer_bytes") (cdv := cdv) (A := A) (outer := outer) (s := s0) (H := H) (E := E)
  refine ⟨_, (pss_cons (ps_set (i := 1) nd rfl (Or.inl rfl) (pe_ifExp (pt_cmp (pc_isN (pe_fld (pv 0) rfl))) (pe_lst (pa_cons pe_int pa_nil)) (pe_op op_cat (pe_lst (pa_cons pe_int pa_nil)) (pe_callTy call_list_of (by rfl) T.f_list (by decide +kernel) (pa_cons (pe_fld (pv 0) rfl) pa_nil)))))
      (pss_one (ps_ret (pe_op op_cat (pe_op op_cat (pe_lst (pa_cons (pe_fld (pv 0) rfl) pa_nil)) (pe_fld (pv 0) rfl)) (pv 1))))), ?_⟩
  try dsimp only [cxOf]
  clear po nd
  obtain ⟨v, ⟨l, bl⟩, rfl, ⟨⟨a, dx, n, fv, rfl, ha, hn, hf⟩, wf⟩, k⟩ := h
  dsimp only at hn hf wf k
  have fin : ∀ (p1 : Addr) (H1 : Hp), Same H H1 → H1 p1 = some (.lst (l.fill.bytes.map bv)) → tRet (tOp rCat (tOp rCat (tLst (tCons (tFld K (tVar 0) (Str.ofString "kind")) tNil)) (tFld K (tVar 0) (Str.ofString "numbers"))) (tVar 1)) { nx := fun x H' => Q V.non H', rt := Q } [some (.ref a), some (.ref p1)] H1 := fun p1 H1 s1 h1 => by
    have ha1 := s1 _ _ ha
    have hn1 := s1 _ _ hn
    have hfl := fill_blen l.fill
    have hnl : (layN l).length ≤ 4 := by cases l <;> simp [layN]
    walk_at "rd"
    refine ⟨by show 1 ≤ sizeLine; decide, fun p2 np2 => ?_⟩
    generalize hH2 : upd H1 p2 _ = H2
    have s2 := new_same hH2 np2
    have h2 := lst_at hH2
    clear hH2
    have ha2 := s2 _ _ ha1
    walk_at "rd"
    refine cat_two h2 (s2 _ _ hn1) (Nat.le_trans (show 1 + (layN l).length ≤ 5 by omega) (by decide)) fun p3 np3 => ?_
    generalize hH3 : upd H2 p3 _ = H3
    have s3 := new_same hH3 np3
    have h3 := lst_at hH3
    clear hH3
    refine ⟨_, rfl, ?_⟩
    refine cat_two h3 (s3 _ _ (s2 _ _ h1)) ?_ fun p4 np4 => ?_
    · rw [List.length_append, List.length_map]
      exact Nat.le_trans (show 1 + (layN l).length + l.fill.bytes.length ≤ 20 by omega) (by decide)
    · refine k p4 _ (fun b o z => (Hc.Same.new (Same.refl _) np4) _ _ (s3 _ _ (s2 _ _ (s1 _ _ z)))) (s1.free (s2.free (s3.free np4))) ?_
      rw [upd_same, layer_bytesV wf]
  walk_at "rd"
  cases hL : l.fill with
  | counter =>
    rw [hL] at hf fin
    obtain rfl : fv = .non := hf
    refine iteB (fun _ => ?_) fun c => absurd c (by decide)
    refine ⟨by show 1 ≤ sizeLine; decide, fun p1 np1 => ?_⟩
    generalize hH1 : upd H p1 _ = H1
    exact fin p1 H1 (new_same hH1 np1) (lst_at hH1)
  | solid g =>
    rw [hL] at hf fin
    have wfg : WfField g := by
      cases l with
      | ord o x f =>
        obtain rfl : f = .solid g := hL
        exact wf.2.2
      | group c n m s f =>
        obtain rfl : f = .solid g := hL
        exact wf.2.2.2.2
    obtain ⟨ff, rfl, hff⟩ := (show IsField H fv g from hf)
    refine iteB (fun c => absurd (of_decide_eq_true c) (by intro z; cases z)) fun _ => ?_
    refine ⟨by show 1 ≤ sizeLine; decide, fun p1 np1 => ?_⟩
    generalize hH1 : upd H p1 _ = H1
    have s1 := new_same hH1 np1
    have h1 := lst_at hH1
    clear hH1
    have ha1 := s1 _ _ ha
    walk_at "rd"
    refine ⟨_, _, rfl, .inr (SqT.of (s1 _ _ hff)), fun p2 np2 => ?_⟩
    generalize hH2 : upd H1 p2 _ = H2
    have s2 := new_same hH2 np2
    have h2 := lst_at hH2
    clear hH2
    have hgl := field_blen g
    have eg := fieldV_bytes wfg
    refine cat_two (s2 _ _ h1) h2 ?_ fun p3 np3 => ?_
    · rw [eg, List.length_map]
      exact Nat.le_trans (show 1 + g.bytes.length ≤ 7 by omega) (by decide)
    · generalize hH3 : upd H2 p3 _ = H3
      have s3 := new_same hH3 np3
      have h3 := lst_at hH3
      refine fin p3 H3 (fun b o z => s3 _ _ (s2 _ _ (s1 _ _ z))) ?_
      rw [h3, eg]
      rfl
def laysB (a : Arms) (i : Nat) : List UInt8 := a.field.bytes ++ (small a.layers.length :: (a.layers.take i).flatMap Layer.bytes)
theorem laysB_len {a : Arms} (h : a.layers.length ≤ 8) (i : Nat) : (laysB a i).length ≤ 110 := by
  have h1 := field_blen a.field
  have z : ((a.layers.take i).flatMap Layer.bytes).length ≤ (a.layers.take i).length * 12 := by
    rw [List.length_flatMap]
    have y := sum_le (l := (a.layers.take i).map fun x => x.bytes.length) (b := 12) fun x hx => by
      obtain ⟨l, _, rfl⟩ := List.mem_map.mp hx
      exact layer_blen l
    rw [List.length_map] at y
    exact y
  have y : (a.layers.take i).length ≤ 8 := by
    rw [List.length_take]
    omega
  unfold laysB
  rw [List.length_append, List.length_cons]
  omega
theorem laysB_all (a : Arms) : laysB a a.layers.length = a.bytes := by
  unfold laysB Arms.bytes
  rw [List.take_length]
theorem pget {α : Type} {F : V → α → Prop} : ∀ {xs : List V} {ys : List α} {i : Nat} {v : V}, Paired F xs ys → xs[i]? = some v → ∃ m, ys[i]? = some m ∧ F v m
  | _, _, 0, v, .cons h _, e => ⟨_, rfl, by cases e; exact h⟩
  | _, _, i + 1, v, .cons _ t, e => by
    obtain ⟨m, h1, h2⟩ := pget (i := i) t (by simpa using e)
    exact ⟨m, by simpa using h1, h2⟩
theorem ok_arms_bytes (T : Txt w K mg) (u_layer_bytes : Cal P w K mg base CX0 1 "layer_bytes" p_layer_bytes (spLayerB K)) : Cal P w K mg base CX0 2 "arms_bytes" p_arms_bytes (spArmsB K) := by
  refine T.d_arms_bytes.cal sc_arms_bytes (fun vs H Q E h => by obtain ⟨_, _, rfl, _⟩ := h; rfl) ?_
  intro cdv A outer s0 H vs Q E hr h
  have nd := sc_arms_bytes.nd
  have po := poX (CX := CX0) (P := P) (w := w) (K := K) (mg := mg) (base := base) (N := n_arms_bytes) (q := "arms_bytes") (sc := defScope s_arms_bytes) (f := He.ga K "arms_bytes") (cdv := cdv) (A := A) (outer := outer) (s := s0) (H := H) (E := E)
  have h_layer_bytes : Room (1) _ := hr.mono (by omega)
  refine ⟨_, (pss_cons (ps_set (i := 1) nd rfl (Or.inl rfl) (pe_op op_cat (pe_callTy call_list_of (by rfl) T.f_list (by decide +kernel) (pa_cons (pe_fld (pv 0) rfl) pa_nil)) (pe_lst (pa_cons (pe_callB call_len_seq (by rfl) T.f_len PySem.boot_len (pa_cons (pe_fld (pv 0) rfl) pa_nil)) pa_nil))))
      (pss_cons (ps_for po rfl (pi_list (pe_fld (pv 0) rfl)) (pg_name (i := 2) nd rfl (Or.inl rfl))
      (pss_one (ps_expr (pe_bm PySem.F.plainAttrs_list PySem.F.slot_list_extend PySem.F.type_list_extend mt_extend (pv 1) (by exact (pa_cons (pe_cal u_layer_bytes (h_layer_bytes) (p0X (E := E0)) (pa_cons (pv 2) pa_nil)) pa_nil))))))
      (pss_one (ps_ret (pv 1))))), ?_⟩
  try dsimp only [cxOf]
  clear h_layer_bytes po nd
  obtain ⟨v, a, rfl, ⟨⟨x, dx, l, fv, vs, rfl, hx, ⟨ff, rfl, hff⟩, hl, hls⟩, wf⟩, k⟩ := h
  obtain ⟨wf1, wf2, wf3⟩ := wf
  have eg := fieldV_bytes wf1
  have hgl := field_blen a.field
  have eln := hls.length
  walk_at "rd"
  refine fun p1 np1 => ?_
  generalize hH1 : upd H p1 _ = H1
  have s1 := new_same hH1 np1
  have h1 := lst_at hH1
  clear hH1
  have hx1 := s1 _ _ hx
  have hl1 := s1 _ _ hl
  walk_at "rd"
  refine ⟨by show 1 ≤ sizeLine; decide, fun p2 np2 => ?_⟩
  generalize hH2 : upd H1 p2 _ = H2
  have s2 := new_same hH2 np2
  have h2 := lst_at hH2
  clear hH2
  refine cat_two (s2 _ _ h1) h2 ?_ fun p3 np3 => ?_
  · rw [eg, List.length_map]
    exact Nat.le_trans (show a.field.bytes.length + 1 ≤ 7 by omega) (by decide)
  generalize hH3 : upd H2 p3 _ = H3
  have s3 := new_same hH3 np3
  have h3 := lst_at hH3
  clear hH3
  have n3 : H p3 = none := s1.free (s2.free np3)
  have s03 : Same H H3 := fun b o z => s3 _ _ (s2 _ _ (s1 _ _ z))
  have h3' : H3 p3 = some (.lst ((laysB a 0).map bv)) := by
    rw [h3, eg, eln]
    unfold laysB
    rw [List.take_zero, List.map_append]
    show _ = some (HO.lst (a.field.bytes.map bv ++ [bv (small a.layers.length)]))
    rw [bv_small (by omega)]
    rfl
  have hx3 := s03 _ _ hx
  have hl3 := s03 _ _ hl
  walk_at "rd"
  refine ⟨⟨_, SqL.of hl3⟩, ?_⟩
  refine for_list (K := K) (a := l) (xs := vs) (fun i σ H' => Same H H' ∧ H' p3 = some (.lst ((laysB a i).map bv)) ∧ ∃ v2, σ = [some (.ref x), some (.ref p3), v2]) ⟨s03, h3', none, rfl⟩ (fun i σ H' _ p => SqL.of (p.1 _ _ hl)) ?_ ?_
  · rintro i u σ H4 hu ⟨s4, h4, v2, rfl⟩
    obtain ⟨L, hL, isL⟩ := pget hls hu
    have hi := (List.getElem?_eq_some_iff.mp hL).1
    have lb := laysB_len wf2 i
    have ll := layer_blen L
    refine ⟨_, rfl, .inl ⟨rfl, _, SqL.of h4⟩, ?_⟩
    refine ⟨_, rfl, u, (L, a.field), rfl, ⟨IsLayer.up s4 isL, wf3 L (List.mem_of_getElem? hL)⟩, fun p5 H5 s5 n5 h5 => ?_⟩
    refine ⟨p3, p5, _, _, rfl, rfl, s5 _ _ h4, h5, ?_, ?_, ?_, _, rfl⟩
    · rw [List.length_map, List.length_map]
      exact Nat.le_trans (show _ ≤ 200 by show (laysB a i).length + L.bytes.length ≤ 200; omega) (by decide)
    · intro b o z
      rw [upd_ne (ne_of_none z n3)]
      exact s5 _ _ (s4 _ _ z)
    · rw [upd_same, ← List.map_append]
      have e : laysB a i ++ L.bytes = laysB a (i + 1) := by
        unfold laysB
        rw [List.take_add_one, hL]
        simp [List.flatMap_append]
      rw [show (laysB a i ++ (fun l : Layer × Field => l.1.bytes) (L, a.field)) = laysB a (i + 1) from e]
  · rintro σ H4 ⟨s4, h4, v2, rfl⟩
    rw [eln, laysB_all] at h4
    refine ⟨_, rfl, ?_⟩
    exact k p3 H4 s4 n3 h4
end
end Hc

namespace Hc
open PySem PySem.Spec PyProof.Rows L2
open Sh ShMarsh
set_option hygiene false
local macro_rules | `(tactic| walk_at "hp") => `(tactic| first | assumption | exact Src.ob (by assumption) | exact Rdr.ob (by assumption) | exact upd_same)
local macro_rules | `(tactic| walk_at "sq") => `(tactic| first | assumption | exact Src.sq (by assumption) | exact Rdr.sq (by assumption) | exact SqL.of (by assumption) | exact SqL.of upd_same | exact SqT.of (by assumption) | exact SqT.of upd_same)
local macro_rules | `(tactic| walk_at "cl") => `(tactic| with_reducible first | exact T.c_Bytes | exact T.c_Coat | exact T.c_Arms | exact T.c_Layer | exact T.c_Token | exact T.c_Reader | exact T.c_Words)
local macro_rules | `(tactic| walk_at "na") => `(tactic| with_reducible first | exact T.n_Bytes_some | exact T.n_Bytes_at | exact T.n_Coat_kind | exact T.n_Coat_arms | exact T.n_Coat_canton | exact T.n_Coat_marks | exact T.n_Coat_coats | exact T.n_Arms_field | exact T.n_Arms_layers | exact T.n_Layer_kind | exact T.n_Layer_numbers | exact T.n_Layer_fill | exact T.n_Token_kind | exact T.n_Token_value | exact T.n_Token_place | exact T.n_Token_behind | exact T.n_Reader_some | exact T.n_Reader_at | exact T.n_Reader_end | exact T.n_Words_some | exact T.n_Words_at)
local macro_rules | `(tactic| walk_at "ai") => `(tactic| first | assumption | exact atI_nat (by assumption) | rfl)
local macro_rules | `(tactic| walk_at "rd1") => `(tactic| first
  | refine ⟨_, rfl, ?_⟩
  | refine ⟨rfl, ?_⟩
  | refine ⟨_, _, rfl, rfl, ?_⟩
  | refine ⟨_, _, _, _, _, rfl, (by walk_at "hp"), (by walk_at "cl"), (by walk_at "na"), (by rfl), ?_⟩
  | refine ⟨_, _, _, _, rfl, (by walk_at "hp"), (by walk_at "cl"), (by walk_at "na"), Nat.le_of_ble_eq_true rfl, ?_⟩
  | refine ⟨_, _, _, _, rfl, rfl, (by walk_at "sq"), (by walk_at "ai"), ?_⟩
  | refine ⟨_, _, rfl, (by first | exact Or.inl (by walk_at "sq") | exact Or.inr (by walk_at "sq")), ?_⟩
  | refine ⟨(by walk_at "ar"), ?_⟩)
local macro_rules | `(tactic| walk_at "ar") => `(tactic| first | exact (show CDiv _ _ from ⟨by decide, by decide⟩) | exact (show (0 : Int) < _ from by decide) | exact (show CMul _ _ from .inl ⟨by omega, by omega⟩) | exact (show CMul _ _ from .inr ⟨by omega, by omega⟩))
local macro_rules | `(tactic| walk_at "rd") => `(tactic| repeat walk_at "rd1")
local macro_rules | `(tactic| walk_at "fa") => `(tactic| first | exact ⟨_, rfl, (by omega), rfl⟩ | exact ⟨_, _, rfl, (by omega), rfl⟩ | exact ⟨_, _, _, rfl, (by omega), rfl⟩ | exact ⟨_, _, _, _, rfl, (by omega), rfl⟩ | exact ⟨_, _, _, _, _, rfl, (by omega), rfl⟩)
local macro_rules | `(tactic| walk_at "vr") => `(tactic| first
  | exact v_var (by rfl)
  | exact v_c
  | (apply v_i0 <;> walk_at "vr")
  | (apply v_i <;> first | walk_at "ar" | walk_at "vr")
  | (apply v_neg <;> walk_at "vr")
  | (apply v_eq <;> walk_at "vr")
  | (apply v_eqB <;> walk_at "vr")
  | (apply v_ne <;> walk_at "vr")
  | (apply v_neB <;> walk_at "vr")
  | (apply v_chain (g := fun _ _ => _) (g' := fun _ _ => _) <;> walk_at "vr")
  | (apply v_and <;> walk_at "vr")
  | (apply v_or <;> walk_at "vr")
  | (apply v_not <;> walk_at "vr")
  | (apply v_ifI <;> walk_at "vr")
  | (apply v_ifB <;> walk_at "vr")
  | (apply v_call <;> first | walk_at "fa" | walk_at "vr")
  | (apply v_abs <;> walk_at "vr")
  | (apply v_min <;> walk_at "vr")
  | exact va_nil
  | (apply va_cons <;> walk_at "vr")
  | (apply a_test <;> walk_at "vr")
  | (apply a_B <;> walk_at "vr")
  | (apply a_and <;> walk_at "vr")
  | (apply a_or <;> walk_at "vr")
  | (apply a_not <;> walk_at "vr"))
local macro_rules | `(tactic| walk_at "rs") => `(tactic| first
  | (apply r_ret; walk_at "vr")
  | (apply r_set; walk_at "vr"; walk_at "rs")
  | (apply r_ifI; walk_at "vr"; intro _; walk_at "rs"; intro _; walk_at "rs")
  | (apply r_ifB; walk_at "vr"; intro _; walk_at "rs"; intro _; walk_at "rs"))

section
variable {P : Program} {w : World} {K : PySem.W.Frag} {mg : Str → Option Value} {base : Heap}
def cantB : Option Arms → List UInt8
  | some a => 1 :: a.bytes
  | none => [0]
def marksB (m : Marked) (i : Nat) : List UInt8 := (0 :: (m.arms.bytes ++ cantB m.canton)) ++ (small m.marks.length :: (m.marks.take i).flatMap fun (x : Nat × Nat) => [small x.1, small x.2])
theorem marksB_all (m : Marked) : marksB m m.marks.length = 0 :: m.bytes := by
  unfold marksB Marked.bytes cantB
  rw [List.take_length]
  cases m.canton <;> simp [List.append_assoc]
theorem arms_blen {a : Arms} (h : WfArms a) : a.bytes.length ≤ 110 := by
  rw [← laysB_all]
  exact laysB_len h.2.1 _
theorem cant_blen {c : Option Arms} (h : ∀ a, c = some a → WfArms a) : (cantB c).length ≤ 111 := by
  cases c with
  | none => show 1 ≤ 111; decide
  | some a =>
    have := arms_blen (h a rfl)
    show a.bytes.length + 1 ≤ 111
    omega
theorem marksB_len {m : Marked} (h : WfMarked m) (i : Nat) : (marksB m i).length ≤ 350 := by
  obtain ⟨h1, h2, h3, _⟩ := h
  have a1 := arms_blen h1
  have a2 := cant_blen h2
  have z : ((m.marks.take i).flatMap fun (x : Nat × Nat) => [small x.1, small x.2]).length ≤ (m.marks.take i).length * 2 := by
    rw [List.length_flatMap]
    have y := sum_le (l := (m.marks.take i).map fun (x : Nat × Nat) => [small x.1, small x.2].length) (b := 2) fun x hx => by
      obtain ⟨l, _, rfl⟩ := List.mem_map.mp hx
      exact Nat.le_refl 2
    rw [List.length_map] at y
    exact y
  have y : (m.marks.take i).length ≤ 60 := by
    rw [List.length_take]
    omega
  unfold marksB
  rw [List.length_append, List.length_cons, List.length_append, List.length_cons]
  omega
abbrev spMarkB (K : PySem.W.Frag) : Sp := spB (α := Marked) (fun H v m => IsMarked K H v m ∧ WfMarked m) (fun m => 0 :: m.bytes)
theorem ok_marked_bytes (T : Txt w K mg) (u_arms_bytes : Cal P w K mg base CX0 2 "arms_bytes" p_arms_bytes (spArmsB K)) : Cal P w K mg base CX0 3 "marked_bytes" p_marked_bytes (spMarkB K) := by
  refine T.d_marked_bytes.cal sc_marked_bytes (fun vs H Q E h => by obtain ⟨_, _, rfl, _⟩ := h; rfl) ?_
  intro cdv A outer s0 H vs Q E hr h
  have nd := sc_marked_bytes.nd
  have po := poX (CX := CX0) (P := P) (w := w) (K := K) (mg := mg) (base := base) (N := n_marked_bytes) (q := "marked_bytes") (sc := defScope s_marked_bytes) (f := He.ga K "marked_bytes") (cdv := cdv) (A := A) (outer := outer) (s := s0) (H := H) (E := E)
  have h_arms_bytes : Room (2) _ := hr.mono (by omega)
  refine ⟨_, (pss_cons (ps_set (i := 1) nd rfl (Or.inl rfl) (pe_op op_cat (pe_lst (pa_cons (pe_gi T.i_MARKED) pa_nil)) (pe_cal u_arms_bytes (h_arms_bytes) (p0X (E := E0)) (pa_cons (pe_fld (pv 0) rfl) pa_nil))))
      (Evl.pss_cut (ps_set (i := 1) nd rfl (Or.inl rfl) (pe_op op_cat (pv 1) (pe_ifExp (pt_cmp (pc_isN (pe_fld (pv 0) rfl))) (pe_lst (pa_cons pe_int pa_nil)) (pe_op op_cat (pe_lst (pa_cons pe_int pa_nil)) (pe_cal u_arms_bytes (h_arms_bytes) (p0X (E := E0)) (pa_cons (pe_fld (pv 0) rfl) pa_nil))))))
      (pss_cons (ps_expr (pe_bm PySem.F.plainAttrs_list PySem.F.slot_list_append PySem.F.type_list_append mt_append (pv 1) (pa_cons (pe_callB call_len_seq (by rfl) T.f_len PySem.boot_len (pa_cons (pe_fld (pv 0) rfl) pa_nil)) pa_nil)))
      (pss_cons (ps_for po rfl (pi_list (pe_fld (pv 0) rfl)) (pg_name (i := 2) nd rfl (Or.inl rfl))
      (pss_one (ps_expr (pe_bm PySem.F.plainAttrs_list PySem.F.slot_list_extend PySem.F.type_list_extend mt_extend (pv 1) (by exact (pa_cons (pe_callTy call_list_of (by rfl) T.f_list (by decide +kernel) (pa_cons (pv 2) pa_nil)) pa_nil))))))
      (pss_one (ps_ret (pv 1))))))), ?_⟩
  try dsimp only [cxOf]
  clear h_arms_bytes po nd
  obtain ⟨v, m, rfl, ⟨⟨x, dx, ml, cl, av, cv, ms, rfl, hx, hA, hC, hm, hP, hc⟩, wf⟩, k⟩ := h
  dsimp only at k
  obtain ⟨wf1, wf2, wf3, wf4⟩ := wf
  have a1 := arms_blen wf1
  have a2 := cant_blen wf2
  have eln := hP.length
  walk_at "rd"
  refine ⟨by show 1 ≤ sizeLine; decide, fun p1 np1 => ?_⟩
  generalize hH1 : upd H p1 _ = H1
  have s1 := new_same hH1 np1
  have h1 := lst_at hH1
  clear hH1
  have hx1 := s1 _ _ hx
  walk_at "rd"
  refine ⟨av, m.arms, rfl, ⟨IsArms.up s1 hA, wf1⟩, fun p2 H2 s2 n2 h2 => ?_⟩
  refine cat_two (s2 _ _ h1) h2 ?_ fun p3 np3 => ?_
  · rw [List.length_map]
    exact Nat.le_trans (show 1 + m.arms.bytes.length ≤ 200 by omega) (by decide)
  generalize hH3 : upd H2 p3 _ = H3
  have s3 := new_same hH3 np3
  have h3 := lst_at hH3
  clear hH3
  have n3 : H p3 = none := s1.free (s2.free np3)
  have s03 : Same H H3 := fun b o z => s3 _ _ (s2 _ _ (s1 _ _ z))
  have h3' : H3 p3 = some (.lst ((0 :: m.arms.bytes).map bv)) := by rw [h3]; rfl
  clear h3 h2 h1 s1 s2 s3 hx1 n2 np3 np1
  have hx3 := s03 _ _ hx
  have hA3 := IsArms.up s03 hA
  have hC3 := IsCant.up s03 hC
  refine ⟨fun σ H4 => ∃ p4, σ = [some (.ref x), some (.ref p4), none] ∧ Same H H4 ∧ H p4 = none ∧ H4 p4 = some (.lst ((0 :: (m.arms.bytes ++ cantB m.canton)).map bv)), ?_, ?_⟩
  · walk_at "rd"
    cases hca : m.canton with
    | none =>
      rw [hca] at hC3
      obtain rfl : cv = .non := hC3
      refine iteB (fun _ => ?_) fun c => absurd c (by decide)
      refine ⟨by show 1 ≤ sizeLine; decide, fun p5 np5 => ?_⟩
      generalize hH5 : upd H3 p5 _ = H5
      have s5 := new_same hH5 np5
      have h5 := lst_at hH5
      clear hH5
      refine cat_two (s5 _ _ h3') h5 ?_ fun p6 np6 => ?_
      · rw [List.length_map, List.length_cons]
        exact Nat.le_trans (show m.arms.bytes.length + 1 + 1 ≤ 200 by omega) (by decide)
      · refine ⟨p6, rfl, fun b o z => (Hc.Same.new (Same.refl _) np6) _ _ (s5 _ _ (s03 _ _ z)), s03.free (s5.free np6), ?_⟩
        rw [upd_same]
        unfold cantB
        rw [← List.cons_append, List.map_append]
        rfl
    | some a =>
      rw [hca] at hC3
      have isA : IsArms K H3 cv a := hC3
      have wfa := wf2 a hca
      have a3 := arms_blen wfa
      obtain ⟨xa, rfl⟩ : ∃ xa, cv = .ref xa := by
        obtain ⟨xa, _, _, _, _, e, _⟩ := isA
        exact ⟨xa, e⟩
      refine iteB (fun c => absurd (of_decide_eq_true c) (by intro z; cases z)) fun _ => ?_
      refine ⟨by show 1 ≤ sizeLine; decide, fun p5 np5 => ?_⟩
      generalize hH5 : upd H3 p5 _ = H5
      have s5 := new_same hH5 np5
      have h5 := lst_at hH5
      clear hH5
      have hx5 := s5 _ _ hx3
      walk_at "rd"
      refine ⟨_, a, rfl, ⟨IsArms.up s5 isA, wfa⟩, fun p6 H6 s6 n6 h6 => ?_⟩
      refine cat_two (s6 _ _ h5) h6 ?_ fun p7 np7 => ?_
      · rw [List.length_map]
        exact Nat.le_trans (show 1 + a.bytes.length ≤ 200 by omega) (by decide)
      generalize hH7 : upd H6 p7 _ = H7
      have s7 := new_same hH7 np7
      have h7 := lst_at hH7
      clear hH7
      refine cat_two (s7 _ _ (s6 _ _ (s5 _ _ h3'))) h7 ?_ fun p8 np8 => ?_
      · rw [List.length_map, List.length_cons, List.length_append, List.length_map]
        exact Nat.le_trans (show m.arms.bytes.length + 1 + (1 + a.bytes.length) ≤ 300 by omega) (by decide)
      · refine ⟨p8, rfl, fun b o z => (Hc.Same.new (Same.refl _) np8) _ _ (s7 _ _ (s6 _ _ (s5 _ _ (s03 _ _ z)))), s03.free (s5.free (s6.free (s7.free np8))), ?_⟩
        rw [upd_same]
        unfold cantB
        rw [← List.cons_append, List.map_append]
        rfl
  rintro _ H4 ⟨p4, rfl, s4, n4, h4⟩
  have hx4 := s4 _ _ hx
  have hm4 := s4 _ _ hm
  walk_at "rd"
  refine ⟨.inl ⟨rfl, _, SqL.of h4⟩, ?_⟩
  walk_at "rd"
  refine ⟨p4, _, _, rfl, rfl, h4, ?_, ?_⟩
  · rw [List.length_map, List.length_cons, List.length_append]
    exact Nat.lt_of_le_of_lt (show m.arms.bytes.length + (cantB m.canton).length + 1 ≤ 300 by omega) (by decide)
  generalize hH5 : upd H4 p4 _ = H5
  have h5 : H5 p4 = some (.lst ((marksB m 0).map bv)) := by
    rw [← hH5, upd_same, eln]
    unfold marksB
    rw [List.take_zero, List.map_append]
    show _ = some (HO.lst ((0 :: (m.arms.bytes ++ cantB m.canton)).map bv ++ [bv (small m.marks.length)]))
    rw [bv_small (by omega)]
    rfl
  have s5 : Same H H5 := fun b o z => by
    rw [← hH5, upd_ne (ne_of_none z n4)]
    exact s4 _ _ z
  clear hH5 h4 s4 hx4 hm4
  have hx5 := s5 _ _ hx
  have hm5 := s5 _ _ hm
  walk_at "rd"
  refine ⟨⟨_, SqL.of hm5⟩, ?_⟩
  refine for_list (K := K) (a := ml) (xs := ms) (fun i σ H' => Same H H' ∧ H' p4 = some (.lst ((marksB m i).map bv)) ∧ ∃ v2, σ = [some (.ref x), some (.ref p4), v2]) ⟨s5, h5, none, rfl⟩ (fun i σ H' _ p => SqL.of (p.1 _ _ hm)) ?_ ?_
  · rintro i u σ H6 hu ⟨s6, h6, v2, rfl⟩
    obtain ⟨y, hy, t, rfl, ht⟩ := pget hP hu
    have hi := (List.getElem?_eq_some_iff.mp hy).1
    have lb := marksB_len ⟨wf1, wf2, wf3, wf4⟩ i
    obtain ⟨y1, y2, y3⟩ := wf4 y (List.mem_of_getElem? hy)
    refine ⟨_, rfl, .inl ⟨rfl, _, SqL.of h6⟩, ?_⟩
    refine ⟨_, rfl, _, _, rfl, .inr (SqT.of (s6 _ _ ht)), fun p7 np7 => ?_⟩
    generalize hH7 : upd H6 p7 _ = H7
    have s7 := new_same hH7 np7
    have h7 := lst_at hH7
    clear hH7
    refine ⟨p4, p7, _, _, rfl, rfl, s7 _ _ h6, h7, ?_, ?_, ?_, _, rfl⟩
    · rw [List.length_map]
      exact Nat.le_trans (show (marksB m i).length + 2 ≤ 400 by omega) (by decide)
    · intro b o z
      rw [upd_ne (ne_of_none z n4)]
      exact s7 _ _ (s6 _ _ z)
    · have e : marksB m (i + 1) = marksB m i ++ [small y.1, small y.2] := by
        unfold marksB
        rw [List.take_add_one, hy]
        simp [List.flatMap_append]
      rw [upd_same, e, List.map_append]
      show _ = some (HO.lst ((marksB m i).map bv ++ [bv (small y.1), bv (small y.2)]))
      rw [bv_small (by omega), bv_small (by omega)]
  · rintro σ H6 ⟨s6, h6, v2, rfl⟩
    rw [eln, marksB_all] at h6
    refine ⟨_, rfl, ?_⟩
    exact k p4 H6 s6 n4 h6
end
end Hc

namespace Hc
open PySem PySem.Spec PyProof.Rows L2
open Sh ShMarsh
set_option hygiene false
local macro_rules | `(tactic| walk_at "hp") => `(tactic| first | assumption | exact Src.ob (by assumption) | exact Rdr.ob (by assumption) | exact upd_same)
local macro_rules | `(tactic| walk_at "sq") => `(tactic| first | assumption | exact Src.sq (by assumption) | exact Rdr.sq (by assumption) | exact SqL.of (by assumption) | exact SqL.of upd_same | exact SqT.of (by assumption) | exact SqT.of upd_same)
local macro_rules | `(tactic| walk_at "cl") => `(tactic| with_reducible first | exact T.c_Bytes | exact T.c_Coat | exact T.c_Arms | exact T.c_Layer | exact T.c_Token | exact T.c_Reader | exact T.c_Words)
local macro_rules | `(tactic| walk_at "na") => `(tactic| with_reducible first | exact T.n_Bytes_some | exact T.n_Bytes_at | exact T.n_Coat_kind | exact T.n_Coat_arms | exact T.n_Coat_canton | exact T.n_Coat_marks | exact T.n_Coat_coats | exact T.n_Arms_field | exact T.n_Arms_layers | exact T.n_Layer_kind | exact T.n_Layer_numbers | exact T.n_Layer_fill | exact T.n_Token_kind | exact T.n_Token_value | exact T.n_Token_place | exact T.n_Token_behind | exact T.n_Reader_some | exact T.n_Reader_at | exact T.n_Reader_end | exact T.n_Words_some | exact T.n_Words_at)
local macro_rules | `(tactic| walk_at "ai") => `(tactic| first | assumption | exact atI_nat (by assumption) | rfl)
local macro_rules | `(tactic| walk_at "rd1") => `(tactic| first
  | refine ⟨_, rfl, ?_⟩
  | refine ⟨rfl, ?_⟩
  | refine ⟨_, _, rfl, rfl, ?_⟩
  | refine ⟨_, _, _, _, _, rfl, (by walk_at "hp"), (by walk_at "cl"), (by walk_at "na"), (by rfl), ?_⟩
  | refine ⟨_, _, _, _, rfl, (by walk_at "hp"), (by walk_at "cl"), (by walk_at "na"), Nat.le_of_ble_eq_true rfl, ?_⟩
  | refine ⟨_, _, _, _, rfl, rfl, (by walk_at "sq"), (by walk_at "ai"), ?_⟩
  | refine ⟨_, _, rfl, (by first | exact Or.inl (by walk_at "sq") | exact Or.inr (by walk_at "sq")), ?_⟩
  | refine ⟨(by walk_at "ar"), ?_⟩)
local macro_rules | `(tactic| walk_at "ar") => `(tactic| first | exact (show CDiv _ _ from ⟨by decide, by decide⟩) | exact (show (0 : Int) < _ from by decide) | exact (show CMul _ _ from .inl ⟨by omega, by omega⟩) | exact (show CMul _ _ from .inr ⟨by omega, by omega⟩))
local macro_rules | `(tactic| walk_at "rd") => `(tactic| repeat walk_at "rd1")
local macro_rules | `(tactic| walk_at "fa") => `(tactic| first | exact ⟨_, rfl, (by omega), rfl⟩ | exact ⟨_, _, rfl, (by omega), rfl⟩ | exact ⟨_, _, _, rfl, (by omega), rfl⟩ | exact ⟨_, _, _, _, rfl, (by omega), rfl⟩ | exact ⟨_, _, _, _, _, rfl, (by omega), rfl⟩)
local macro_rules | `(tactic| walk_at "vr") => `(tactic| first
  | exact v_var (by rfl)
  | exact v_c
  | (apply v_i0 <;> walk_at "vr")
  | (apply v_i <;> first | walk_at "ar" | walk_at "vr")
  | (apply v_neg <;> walk_at "vr")
  | (apply v_eq <;> walk_at "vr")
  | (apply v_eqB <;> walk_at "vr")
  | (apply v_ne <;> walk_at "vr")
  | (apply v_neB <;> walk_at "vr")
  | (apply v_chain (g := fun _ _ => _) (g' := fun _ _ => _) <;> walk_at "vr")
  | (apply v_and <;> walk_at "vr")
  | (apply v_or <;> walk_at "vr")
  | (apply v_not <;> walk_at "vr")
  | (apply v_ifI <;> walk_at "vr")
  | (apply v_ifB <;> walk_at "vr")
  | (apply v_call <;> first | walk_at "fa" | walk_at "vr")
  | (apply v_abs <;> walk_at "vr")
  | (apply v_min <;> walk_at "vr")
  | exact va_nil
  | (apply va_cons <;> walk_at "vr")
  | (apply a_test <;> walk_at "vr")
  | (apply a_B <;> walk_at "vr")
  | (apply a_and <;> walk_at "vr")
  | (apply a_or <;> walk_at "vr")
  | (apply a_not <;> walk_at "vr"))
local macro_rules | `(tactic| walk_at "rs") => `(tactic| first
  | (apply r_ret; walk_at "vr")
  | (apply r_set; walk_at "vr"; walk_at "rs")
  | (apply r_ifI; walk_at "vr"; intro _; walk_at "rs"; intro _; walk_at "rs")
  | (apply r_ifB; walk_at "vr"; intro _; walk_at "rs"; intro _; walk_at "rs"))

section
variable {P : Program} {w : World} {K : PySem.W.Frag} {mg : Str → Option Value} {base : Heap}
theorem allB_flat : ∀ l : List Coat, allBytes l = l.flatMap Coat.bytes
  | [] => by unfold allBytes; rfl
  | x :: l => by
    unfold allBytes
    rw [allB_flat l]
    rfl
def hdB (c : Coat) : List UInt8 := small (kindN c) :: (if kindN c = 1 then [small (subs c).length] else [])
theorem coatB_eq {c : Coat} (h : kindN c ≠ 0) : c.bytes = hdB c ++ (subs c).flatMap Coat.bytes := by
  cases c with
  | one m => exact absurd rfl h
  | quarters l =>
    unfold Coat.bytes
    rw [allB_flat]
    rfl
  | impaled a b =>
    unfold Coat.bytes
    show _ = [2] ++ (a.bytes ++ (b.bytes ++ []))
    rw [List.append_nil]
    rfl
  | pretence a b =>
    unfold Coat.bytes
    show _ = [3] ++ (a.bytes ++ (b.bytes ++ []))
    rw [List.append_nil]
    rfl
theorem hdB_len (c : Coat) : (hdB c).length ≤ 2 := by
  unfold hdB
  split <;> simp
theorem coatB_len : ∀ (d : Nat) (c : Coat), WfCoat c → c.deep ≤ d + 1 → c.bytes.length ≤ 400 * 10 ^ d
  | d, c, wf, hd => by
    have h10 : 1 ≤ 10 ^ d := Nat.one_le_pow _ _ (by decide)
    by_cases hk : kindN c = 0
    · obtain ⟨m, rfl⟩ := kind_0 hk
      unfold WfCoat at wf
      have := marksB_len wf m.marks.length
      rw [marksB_all] at this
      unfold Coat.bytes
      exact Nat.le_trans (Nat.le_trans this (by decide)) (Nat.le_mul_of_pos_right 400 h10)
    · cases d with
      | zero =>
        have := deep_subs hk
        have hl : 1 ≤ (subs c).length := by
          cases q : subs c with
          | nil => exact absurd q (wf_ne wf hk)
          | cons _ _ => simp
        have h0 := deep_get (List.getElem?_eq_getElem (show 0 < (subs c).length from hl))
        have hp := deep_pos (subs c)[0]
        omega
      | succ d =>
        rw [coatB_eq hk]
        have hs : ((subs c).map fun x => x.bytes.length).sum ≤ ((subs c).map fun x => x.bytes.length).length * (400 * 10 ^ d) := sum_le fun y hy => by
          obtain ⟨c', hc', rfl⟩ := List.mem_map.mp hy
          obtain ⟨i, hi⟩ := List.mem_iff_getElem?.mp hc'
          exact coatB_len d c' ((wf_subs wf).1.get hi) (by have := deep_get hi; have := deep_subs hk; omega)
        have l9 := (wf_subs wf).2
        have h2 := hdB_len c
        rw [List.length_append, List.length_flatMap]
        rw [List.length_map] at hs
        have hX : 1 ≤ 10 ^ d := Nat.one_le_pow _ _ (by decide)
        have e10 : 10 ^ (d + 1) = 10 * 10 ^ d := by rw [Nat.pow_succ, Nat.mul_comm]
        rw [e10]
        generalize 10 ^ d = X at *
        have hm : (subs c).length * (400 * X) ≤ 9 * (400 * X) := Nat.mul_le_mul_right _ l9
        omega
def subB (c : Coat) (i : Nat) : List UInt8 := hdB c ++ ((subs c).take i).flatMap Coat.bytes
theorem subB_len {c : Coat} (wf : WfCoat c) (hk : kindN c ≠ 0) (h4 : c.deep ≤ 4) (i : Nat) : (subB c i).length ≤ 400000 := by
  have h := coatB_len 3 c wf h4
  rw [coatB_eq hk, ← List.take_append_drop i (subs c), List.flatMap_append] at h
  unfold subB
  rw [List.length_append] at h ⊢
  rw [List.length_append] at h
  omega
def spCoatB (K : PySem.W.Frag) (d : Nat) : Sp := spB (α := Coat) (fun H v c => IsCoat K H v c ∧ WfCoat c ∧ c.deep ≤ d ∧ c.deep ≤ 4) Coat.bytes
theorem spCoatB_never {K : PySem.W.Frag} : ∀ vs H Q E, spCoatB K 0 vs H Q E → False := fun vs H Q E ⟨v, c, _, ⟨_, _, h, _⟩, _⟩ => by
  have := deep_pos c
  omega
theorem step_coat_bytes (T : Txt w K mg) (d : Nat) (u_marked_bytes : Cal P w K mg base CX0 3 "marked_bytes" p_marked_bytes (spMarkB K)) (u_coat_bytes : Cal P w K mg base CX0 (3 + d) "coat_bytes" p_coat_bytes (spCoatB K d)) : Cal P w K mg base CX0 (3 + d + 1) "coat_bytes" p_coat_bytes (spCoatB K (d + 1)) := by
  refine T.d_coat_bytes.cal sc_coat_bytes (fun vs H Q E h => by obtain ⟨_, _, rfl, _⟩ := h; rfl) ?_
  intro cdv A outer s0 H vs Q E hr h
  have nd := sc_coat_bytes.nd
  have po := poX (CX := CX0) (P := P) (w := w) (K := K) (mg := mg) (base := base) (N := n_coat_bytes) (q := "coat_bytes") (sc := defScope s_coat_bytes) (f := He.ga K "coat_bytes") (cdv := cdv) (A := A) (outer := outer) (s := s0) (H := H) (E := E)
  have h_marked_bytes : Room (3) _ := hr.mono (by omega)
  have h_coat_bytes : Room (3+d) _ := hr.mono (by omega)
  refine ⟨_, (pss_cons (ps_if (pt_cmpR op_eq (pe_fld (pv 0) rfl) (pe_gi T.i_MARKED) (nomark _)) (pss_one (ps_ret (pe_cal u_marked_bytes (h_marked_bytes) (p0X (E := E0)) (pa_cons (pv 0) pa_nil)))) pss_nil)
      (pss_cons (ps_set (i := 1) nd rfl (Or.inl rfl) (pe_lst (pa_cons (pe_fld (pv 0) rfl) pa_nil)))
      (Evl.pss_cut (ps_if (pt_cmpR op_eq (pe_fld (pv 0) rfl) (pe_gi T.i_QUARTERLY) (nomark _)) (pss_one (ps_expr (pe_bm PySem.F.plainAttrs_list PySem.F.slot_list_append PySem.F.type_list_append mt_append (pv 1) (pa_cons (pe_callB call_len_seq (by rfl) T.f_len PySem.boot_len (pa_cons (pe_fld (pv 0) rfl) pa_nil)) pa_nil)))) pss_nil)
      (pss_cons (ps_for po rfl (pi_list (pe_fld (pv 0) rfl)) (pg_name (i := 2) nd rfl (Or.inl rfl))
      (pss_one (ps_expr (pe_bm PySem.F.plainAttrs_list PySem.F.slot_list_extend PySem.F.type_list_extend mt_extend (pv 1) (by exact (pa_cons (pe_cal u_coat_bytes (h_coat_bytes) (p0X (E := E0)) (pa_cons (pv 2) pa_nil)) pa_nil))))))
      (pss_one (ps_ret (pv 1))))))), ?_⟩
  try dsimp only [cxOf]
  clear h_coat_bytes h_marked_bytes po nd
  obtain ⟨v, c, rfl, ⟨is, wf, hd, hd4⟩, k⟩ := h
  obtain ⟨x, dx, ml, cl, av, cv, ms, vs, rfl, hx, hm, hc, hv⟩ := coat_open is
  walk_at "rd"
  refine iteB (fun c1 => ?_) fun c1 => ?_
  · have c1' : kindN c = 0 := by
      have z : V.int (kindN c : Int) = V.int 0 := of_decide_eq_true c1
      injection z with z
      omega
    obtain ⟨m, rfl⟩ := kind_0 c1'
    unfold IsCoat at is
    unfold WfCoat at wf
    unfold Coat.bytes at k
    walk_at "rd"
    exact ⟨_, m, rfl, ⟨is, wf⟩, k⟩
  · have hk : kindN c ≠ 0 := fun z => by
      rw [z] at c1
      simp [iv] at c1
    have l9 := (wf_subs wf).2
    have k3 : kindN c ≤ 3 := by cases c <;> exact Nat.le_of_ble_eq_true rfl
    walk_at "rd"
    refine ⟨by show 1 ≤ sizeLine; decide, fun p1 np1 => ?_⟩
    generalize hH1 : upd H p1 _ = H1
    have s1 := new_same hH1 np1
    have h1 := lst_at hH1
    clear hH1
    have hx1 := s1 _ _ hx
    have hc1 := s1 _ _ hc
    have eln := hv.len
    refine ⟨fun σ H2 => σ = [some (.ref x), some (.ref p1), none] ∧ Same H H2 ∧ H2 p1 = some (.lst ((hdB c).map bv)), ?_, ?_⟩
    · walk_at "rd"
      refine iteB (fun c2 => ?_) fun c2 => ?_
      · have c2' : kindN c = 1 := by
          have z : V.int (kindN c : Int) = V.int 1 := of_decide_eq_true c2
          injection z with z
          omega
        refine ⟨_, rfl, .inl ⟨rfl, _, SqL.of h1⟩, ?_⟩
        walk_at "rd"
        refine ⟨p1, _, _, rfl, rfl, h1, by show 1 < sizeLine; decide, ?_⟩
        refine ⟨rfl, fun b o z => ?_, ?_⟩
        · rw [upd_ne (ne_of_none z np1)]
          exact s1 _ _ z
        · rw [upd_same]
          unfold hdB
          rw [if_pos c2', eln]
          show _ = some (HO.lst [bv (small (kindN c)), bv (small (subs c).length)])
          rw [bv_small (by omega), bv_small (by omega)]
          rfl
      · have c2' : kindN c ≠ 1 := fun z => by
          rw [z] at c2
          simp [iv] at c2
        refine ⟨rfl, s1, ?_⟩
        rw [h1]
        unfold hdB
        rw [if_neg c2']
        show _ = some (HO.lst [bv (small (kindN c))])
        rw [bv_small (by omega)]
    rintro _ H2 ⟨rfl, s2, h2⟩
    have hx2 := s2 _ _ hx
    have hc2 := s2 _ _ hc
    walk_at "rd"
    refine ⟨⟨_, SqL.of hc2⟩, ?_⟩
    refine for_list (K := K) (a := cl) (xs := vs) (fun i σ H' => Same H H' ∧ H' p1 = some (.lst ((subB c i).map bv)) ∧ ∃ v2, σ = [some (.ref x), some (.ref p1), v2]) ⟨s2, ?_, none, rfl⟩ (fun i σ H' _ p => SqL.of (p.1 _ _ hc)) ?_ ?_
    · rw [h2]
      unfold subB
      rw [List.take_zero]
      rw [List.flatMap_nil, List.append_nil]
    · rintro i u σ H6 hu ⟨s6, h6, v2, rfl⟩
      obtain ⟨c', hc', is'⟩ := hv.get hu
      have lb := subB_len wf hk hd4 i
      have wf' := (wf_subs wf).1.get hc'
      have dg := deep_get hc'
      have ds := deep_subs hk
      have lc := coatB_len 3 c' wf' (by omega)
      refine ⟨_, rfl, .inl ⟨rfl, _, SqL.of h6⟩, ?_⟩
      refine ⟨_, rfl, u, c', rfl, ⟨IsCoat.up s6 is', wf', by omega, by omega⟩, fun p7 H7 s7 n7 h7 => ?_⟩
      refine ⟨p1, p7, _, _, rfl, rfl, s7 _ _ h6, h7, ?_, ?_, ?_, _, rfl⟩
      · rw [List.length_map, List.length_map]
        exact Nat.le_trans (show (subB c i).length + c'.bytes.length ≤ 800000 by omega) (by decide)
      · intro b o z
        rw [upd_ne (ne_of_none z np1)]
        exact s7 _ _ (s6 _ _ z)
      · have e : subB c (i + 1) = subB c i ++ c'.bytes := by
          unfold subB
          rw [List.take_add_one, hc']
          simp [List.flatMap_append]
        rw [upd_same, e, List.map_append]
    · rintro σ H6 ⟨s6, h6, v2, rfl⟩
      have e : subB c vs.length = c.bytes := by
        rw [eln, coatB_eq hk]
        unfold subB
        rw [List.take_length]
      rw [e] at h6
      refine ⟨_, rfl, ?_⟩
      exact k p1 H6 s6 np1 h6
theorem all_coat_bytes (T : Txt w K mg) (u_marked_bytes : Cal P w K mg base CX0 3 "marked_bytes" p_marked_bytes (spMarkB K)) : ∀ d : Nat, Cal P w K mg base CX0 (3 + d) "coat_bytes" p_coat_bytes (spCoatB K d)
  | 0 => by
    obtain ⟨⟨fd, F, b⟩, g⟩ := T.d_coat_bytes
    exact ⟨⟨fd, ⟨fun _ _ _ _ h => (spCoatB_never _ _ _ _ h).elim, fun _ _ _ _ _ _ _ _ _ _ _ _ _ h => (spCoatB_never _ _ _ _ h).elim⟩, b⟩, g, F.kp⟩
  | d + 1 => step_coat_bytes T d u_marked_bytes (all_coat_bytes T u_marked_bytes d)
end
end Hc

namespace Hc
open PySem PySem.Spec PyProof.Rows L2
open Sh ShMarsh
set_option hygiene false
local macro_rules | `(tactic| walk_at "hp") => `(tactic| first | assumption | exact Src.ob (by assumption) | exact Rdr.ob (by assumption) | exact upd_same)
local macro_rules | `(tactic| walk_at "sq") => `(tactic| first | assumption | exact Src.sq (by assumption) | exact Rdr.sq (by assumption) | exact SqL.of (by assumption) | exact SqL.of upd_same | exact SqT.of (by assumption) | exact SqT.of upd_same)
local macro_rules | `(tactic| walk_at "cl") => `(tactic| with_reducible first | exact T.c_Bytes | exact T.c_Coat | exact T.c_Arms | exact T.c_Layer | exact T.c_Token | exact T.c_Reader | exact T.c_Words)
local macro_rules | `(tactic| walk_at "na") => `(tactic| with_reducible first | exact T.n_Bytes_some | exact T.n_Bytes_at | exact T.n_Coat_kind | exact T.n_Coat_arms | exact T.n_Coat_canton | exact T.n_Coat_marks | exact T.n_Coat_coats | exact T.n_Arms_field | exact T.n_Arms_layers | exact T.n_Layer_kind | exact T.n_Layer_numbers | exact T.n_Layer_fill | exact T.n_Token_kind | exact T.n_Token_value | exact T.n_Token_place | exact T.n_Token_behind | exact T.n_Reader_some | exact T.n_Reader_at | exact T.n_Reader_end | exact T.n_Words_some | exact T.n_Words_at)
local macro_rules | `(tactic| walk_at "ai") => `(tactic| first | assumption | exact atI_nat (by assumption) | rfl)
local macro_rules | `(tactic| walk_at "rd1") => `(tactic| first
  | refine ⟨_, rfl, ?_⟩
  | refine ⟨rfl, ?_⟩
  | refine ⟨_, _, rfl, rfl, ?_⟩
  | refine ⟨_, _, _, _, _, rfl, (by walk_at "hp"), (by walk_at "cl"), (by walk_at "na"), (by rfl), ?_⟩
  | refine ⟨_, _, _, _, rfl, (by walk_at "hp"), (by walk_at "cl"), (by walk_at "na"), Nat.le_of_ble_eq_true rfl, ?_⟩
  | refine ⟨_, _, _, _, rfl, rfl, (by walk_at "sq"), (by walk_at "ai"), ?_⟩
  | refine ⟨_, _, rfl, (by first | exact Or.inl (by walk_at "sq") | exact Or.inr (by walk_at "sq")), ?_⟩
  | refine ⟨(by walk_at "ar"), ?_⟩)
local macro_rules | `(tactic| walk_at "ar") => `(tactic| first | exact (show CDiv _ _ from ⟨by decide, by decide⟩) | exact (show (0 : Int) < _ from by decide) | exact (show CMul _ _ from .inl ⟨by omega, by omega⟩) | exact (show CMul _ _ from .inr ⟨by omega, by omega⟩))
local macro_rules | `(tactic| walk_at "rd") => `(tactic| repeat walk_at "rd1")
local macro_rules | `(tactic| walk_at "fa") => `(tactic| first | exact ⟨_, rfl, (by omega), rfl⟩ | exact ⟨_, _, rfl, (by omega), rfl⟩ | exact ⟨_, _, _, rfl, (by omega), rfl⟩ | exact ⟨_, _, _, _, rfl, (by omega), rfl⟩ | exact ⟨_, _, _, _, _, rfl, (by omega), rfl⟩)
local macro_rules | `(tactic| walk_at "vr") => `(tactic| first
  | exact v_var (by rfl)
  | exact v_c
  | (apply v_i0 <;> walk_at "vr")
  | (apply v_i <;> first | walk_at "ar" | walk_at "vr")
  | (apply v_neg <;> walk_at "vr")
  | (apply v_eq <;> walk_at "vr")
  | (apply v_eqB <;> walk_at "vr")
  | (apply v_ne <;> walk_at "vr")
  | (apply v_neB <;> walk_at "vr")
  | (apply v_chain (g := fun _ _ => _) (g' := fun _ _ => _) <;> walk_at "vr")
  | (apply v_and <;> walk_at "vr")
  | (apply v_or <;> walk_at "vr")
  | (apply v_not <;> walk_at "vr")
  | (apply v_ifI <;> walk_at "vr")
  | (apply v_ifB <;> walk_at "vr")
  | (apply v_call <;> first | walk_at "fa" | walk_at "vr")
  | (apply v_abs <;> walk_at "vr")
  | (apply v_min <;> walk_at "vr")
  | exact va_nil
  | (apply va_cons <;> walk_at "vr")
  | (apply a_test <;> walk_at "vr")
  | (apply a_B <;> walk_at "vr")
  | (apply a_and <;> walk_at "vr")
  | (apply a_or <;> walk_at "vr")
  | (apply a_not <;> walk_at "vr"))
local macro_rules | `(tactic| walk_at "rs") => `(tactic| first
  | (apply r_ret; walk_at "vr")
  | (apply r_set; walk_at "vr"; walk_at "rs")
  | (apply r_ifI; walk_at "vr"; intro _; walk_at "rs"; intro _; walk_at "rs")
  | (apply r_ifB; walk_at "vr"; intro _; walk_at "rs"; intro _; walk_at "rs"))

section
variable {P : Program} {w : World} {K : PySem.W.Frag} {mg : Str → Option Value} {base : Heap}
theorem main_read (T : Txt w K mg) {fd : FuncData} (FD : FunD K "read" "read" (defArgs s_read) (defBody s_read) (defScope s_read) [] [] (He.ga K "read") fd) (u_coat_of_words : Cal P w K mg base (L2.CX P w) 30 "coat_of_words" p_coat_of_words (spCoatOfW K)) (u_coat_bytes : Cal P w K mg base CX0 7 "coat_bytes" p_coat_bytes (spCoatB K 4)) : FnOk P w K mg base CX0 31 (He.ga K "read") fd p_read (spMain K PyWqaqbh.read) := by
  refine FD.ok sc_read (fun vs H Q E h => by obtain ⟨_, _, rfl, _⟩ := h; rfl) ?_
  intro cdv A outer s0 H vs Q E hr h
  have nd := sc_read.nd
  have po := poX (CX := CX0) (P := P) (w := w) (K := K) (mg := mg) (base := base) (N := n_read) (q := "read") (sc := defScope s_read) (f := He.ga K "read") (cdv := cdv) (A := A) (outer := outer) (s := s0) (H := H) (E := E)
  have h_coat_of_words : Room (30) _ := hr.mono (by omega)
  have h_coat_bytes : Room (7) _ := hr.mono (by omega)
  refine ⟨_, (pss_cons (ps_try_as (i := 2) (Wout := fun _ _ _ _ => False) rfl rfl nd rfl rfl ⟨rfl, by decide, Or.inl T.g_Fault⟩ takes0
        (fun W pn xe tk _ => (pss_one (ps_set (i := 1) nd rfl (Or.inl rfl) (pe_cal u_coat_bytes (h_coat_bytes) (p0X (E := E0)) (pa_cons (pe_calS u_coat_of_words (h_coat_of_words) (fun σ => passAt tk σ) (by exact (pa_cons (pv 0) pa_nil))) pa_nil)))))
        (fun a oe cls d pn hz hf => (pss_one (ps_ret (pe_lst (pa_cons (pe_op op_sub pe_int (pe_xf T.x_Fault.xf (T.x_Fault.no _ (by simp)) hz hf (pv 2))) (pa_cons (pe_xf T.x_Fault.xf (T.x_Fault.no _ (by simp)) hz hf (pv 2)) pa_nil)))))))
      (pss_one (ps_ret (pe_op op_cat (pe_lst (pa_cons (pe_callB call_len_seq (by rfl) T.f_len PySem.boot_len (pa_cons (pv 1) pa_nil)) pa_nil)) (pv 1))))), ?_⟩
  try dsimp only [cxOf]
  clear h_coat_bytes h_coat_of_words po nd
  obtain ⟨c, ns, rfl, hi, hb, hS, kQ⟩ := h
  rw [toB_bv hi] at hS
  rw [due_read hi] at kQ
  walk_at "rd"
  refine ⟨c, toB ns, rfl, hS, by rw [toB_len]; exact hb, fun e he d H1 sa hd => ⟨true, T.x_Fault.me, fun _ a na => ?_, fun q => Bool.noConfusion q⟩, fun co he v H1 sa is wf dp => ?_⟩
  · have et : told (ShCoats.answer (.read (toB ns))) = [-(e.1 : Int), (e.2 : Int)] := by
      unfold ShCoats.answer
      dsimp only
      rw [he]
      rfl
    rw [et] at kQ
    refine ⟨_, rfl, rfl, rfl, d, _, _, rfl, hd, rfl, _, _, rfl, rfl, ?_⟩
    refine ⟨_, rfl, rfl, rfl, d, _, _, rfl, hd, rfl, ?_⟩
    refine ⟨by show 2 ≤ sizeLine; decide, fun p hp => kQ p _ ?_⟩
    rw [upd_same]
    show some (HO.lst [V.int (0 - (e.1 : Int)), V.int (e.2 : Int)]) = some (HO.lst [V.int (-(e.1 : Int)), V.int (e.2 : Int)])
    rw [Int.zero_sub]
  · have et : told (ShCoats.answer (.read (toB ns))) = ((co.bytes.length : Nat) : Int) :: co.bytes.map fun b => (b.toNat : Int) := by
      unfold ShCoats.answer
      dsimp only
      rw [he]
      rfl
    rw [et] at kQ
    have bl := coatB_len 3 co wf dp
    refine ⟨_, co, rfl, ⟨is, wf, dp, dp⟩, fun p H2 s2 n2 h2 => ?_⟩
    rw [show Coat.bytes co = co.bytes from rfl] at h2
    generalize co.bytes = b at *
    have big : sizeLine = 16777216 := by decide
    have b7 : b.length ≤ 400000 := bl
    refine ⟨_, rfl, p, _, rfl, .inl (SqL.of h2), ?_⟩
    rw [List.length_map]
    refine ⟨by show 1 ≤ sizeLine; decide, fun D1 n1 => ?_⟩
    generalize hH3 : upd H2 D1 _ = H3
    have s3 := new_same hH3 n1
    have h3 := lst_at hH3
    clear hH3
    refine ⟨_, rfl, ?_⟩
    refine cat_two h3 (s3 _ _ h2) ?_ fun p4 np4 => kQ p4 _ ?_
    · rw [List.length_map]
      show 1 + b.length ≤ sizeLine
      omega
    · rw [upd_same, List.map_cons, List.map_map]
      rfl
end
end Hc

namespace Hc
open PySem PySem.Spec PyProof.Rows L2

theorem facts_main {P : Program} {w : World} {K : PySem.W.Frag} {h : Heap} {mg : Str → Option Value} {fa' : Addr} (X : K.In h) (G : h.Ns mainGlobals mg) (hfa : mg ("read" : Str) = some (.ref fa')) (c : He.SaysT fa fn tabs w K) (e : exb K = true) :
    ∃ fd : FuncData, (∀ (s : Shared) (us : List Value), us.length = p_read.length → BindsTo s fd ⟨us, []⟩ (p_read.zip us)) ∧ ∀ base : Heap, FnOk P w K mg base CX0 31 fa' fd p_read (spMain K PyWqaqbh.read) := by
  have T := txt_of X G c e
  obtain ⟨fd, FD⟩ := c.d.def_ 51 (d := dd_read) rfl
  have ea := hfa.symm.trans T.d_read.g
  cases ea
  refine ⟨fd, FunD.bindsA FD fun _ _ _ _ _ _ us hl => match us, hl with | [_], _ => rfl, fun base => ?_⟩
  have m_Words := ok_Words_init (P := P) (w := w) (base := base) T
  have u_is_blank := ok_is_blank (P := P) (base := base) T 
  have u_behind_blanks := ok_behind_blanks (P := P) (base := base) T u_is_blank
  have u_byte_at := ok_byte_at (P := P) (base := base) T 
  have u_pass_blanks := ok_pass_blanks (P := P) (base := base) T u_behind_blanks u_byte_at
  have q_Fault := ok_Fault_init (P := P) (w := w) (base := base) T
  have u_is_letter := ok_is_letter (P := P) (base := base) T 
  have m_Coat := ok_Coat_init (P := P) (w := w) (base := base) T
  have u_take_sign := ok_take_sign (P := P) (base := base) T u_pass_blanks q_Fault
  have m_Reader := ok_Reader_init (P := P) (w := w) (base := base) T
  have m_Token := ok_Token_init (P := P) (w := w) (base := base) T
  have u_behind_letters := ok_behind_letters (P := P) (base := base) T u_is_letter
  have u_text_of := ok_text_of (P := P) (base := base) T 
  have u_is_digit := ok_is_digit (P := P) (base := base) T 
  have u_behind_digits := ok_behind_digits (P := P) (base := base) T u_is_digit
  have u_number_of := ok_number_of (P := P) (base := base) T 
  have u_number_token := ok_number_token (P := P) (base := base) T u_behind_digits q_Fault u_number_of m_Token
  have u_ahead := ok_ahead (P := P) (base := base) T u_behind_blanks m_Token u_is_letter u_behind_letters u_text_of u_is_digit u_number_token q_Fault
  have u_is_next := ok_is_next (P := P) (base := base) T u_ahead
  have u_want := ok_want (P := P) (base := base) T q_Fault u_ahead
  have u_pass_token := ok_pass_token (P := P) (base := base) T u_ahead
  have u_with_sinister := ok_with_sinister (P := P) (base := base) T u_is_next u_pass_token
  have u_take := ok_take (P := P) (base := base) T u_is_next u_want u_pass_token
  have u_read_line := ok_read_line (P := P) (base := base) T u_is_next u_pass_token
  have u_read_tinctures := ok_read_tinctures (P := P) (base := base) T u_take q_Fault
  have u_read_varied := ok_read_varied (P := P) (base := base) T u_with_sinister u_take u_ahead u_want u_pass_token q_Fault u_read_line u_read_tinctures
  have u_read_parted := ok_read_parted (P := P) (base := base) T u_take u_with_sinister u_read_line u_read_tinctures
  have u_read_field := ok_read_field (P := P) (base := base) T u_is_next u_want u_pass_token u_read_varied u_read_parted
  have m_Arms := ok_Arms_init (P := P) (w := w) (base := base) T
  have u_several_names := ok_several_names (P := P) (base := base) T 
  have u_look_at_article := ok_look_at_article (P := P) (base := base) T q_Fault
  have u_read_manner := ok_read_manner (P := P) (base := base) T u_is_next u_pass_token u_take u_with_sinister
  have u_read_fill := ok_read_fill (P := P) (base := base) T u_is_next u_read_field u_pass_token q_Fault
  have m_Layer := ok_Layer_init (P := P) (w := w) (base := base) T
  have u_read_group := ok_read_group (P := P) (base := base) T u_several_names u_is_next u_want u_ahead u_look_at_article u_pass_token u_take u_read_manner u_read_fill m_Layer
  have u_read_ordinary := ok_read_ordinary (P := P) (base := base) T u_pass_token u_with_sinister u_read_line u_read_fill m_Layer
  have u_read_layer := ok_read_layer (P := P) (base := base) T u_is_next u_pass_token u_read_group u_take u_read_ordinary
  have u_read_blazon := ok_read_blazon (P := P) (base := base) T m_Reader u_read_field m_Arms u_ahead u_pass_token q_Fault u_read_layer u_want
  have u_read_arms := ok_read_arms (P := P) (base := base) T u_take_sign q_Fault u_read_blazon
  have u_word_ahead := ok_word_ahead (P := P) (base := base) T u_pass_blanks u_behind_letters u_text_of
  have u_read_number := ok_read_number (P := P) (base := base) T u_byte_at u_is_digit q_Fault u_behind_digits u_number_of
  have u_read_mark := ok_read_mark (P := P) (base := base) T u_read_number u_byte_at q_Fault
  have u_read_marks := ok_read_marks (P := P) (base := base) T u_pass_blanks u_read_mark u_is_digit q_Fault
  have u_read_marked := ok_read_marked (P := P) (base := base) T m_Coat u_read_arms u_word_ahead u_read_marks
  have u_read_coat := all_read_coat T u_pass_blanks q_Fault u_is_letter u_read_marked u_word_ahead m_Coat u_take_sign 4
  have u_coat_of_words := ok_coat_of_words (P := P) (base := base) T m_Words u_read_coat u_pass_blanks q_Fault
  have u_layer_bytes := ok_layer_bytes (P := P) (base := base) T 
  have u_arms_bytes := ok_arms_bytes (P := P) (base := base) T u_layer_bytes
  have u_marked_bytes := ok_marked_bytes (P := P) (base := base) T u_arms_bytes
  have u_coat_bytes := all_coat_bytes (P := P) (base := base) T u_marked_bytes 4
  exact main_read T FD u_coat_of_words u_coat_bytes
end Hc
open PySem PySem.W PySem.Calls PyProof.Rows
set_option maxHeartbeats 8000000 in
theorem PySem.Challenge.cw_heraldcoats_s06_read_holds : PySem.Challenge.rw_heraldcoats_s06_read.Holds := by
  w_on
  refine holds_os (r := PySem.Challenge.rw_heraldcoats_s06_read) (q := Hc.qv) (loose := Hc.loose) (XP := XL Hc.qv []) (YP := Hc.hk.says) (kwd := []) Hc.left Hc.hk.of Hc.hk.keeps (fun s z => xl_of s (Bool.and_eq_true_iff.mp z).1) XL.keeps
    (by rfl) (by rfl) (by rfl) (fun s z => recFacts_of (Bool.and_eq_true_iff.mp z).2) os_shapes (by decide +kernel) (by decide +kernel) ⟨rfl, rfl, rfl, rfl, rfl, by decide +kernel⟩ ?hw ?hc
  case hw => exact ⟨[.list []], by decide +kernel, by decide +kernel⟩
  case hc =>
    refine Hc.walk_specE (r := PySem.Challenge.rw_heraldcoats_s06_read) (k := 31) (CX := L2.CX0) (ps := Hc.p_read) (sp := fun K => Hc.spMain K PyWqaqbh.read) (by decide +kernel) rfl rfl ⟨rfl, by decide, by decide⟩ ?F ?S (fun _ _ _ _ z => z)
    case F =>
      rintro w mg fa' h ⟨K, KX, c, e⟩ G hmg
      obtain ⟨fd, hb, hF⟩ := Hc.facts_main (P := PySem.Challenge.rw_heraldcoats_s06_read.prog) KX G hmg c e
      exact ⟨K, KX, fd, hb, fun base _ _ => hF base⟩
    case S =>
      intro K H xs a hO hwi hask hx
      cases hx with
      | cons h1 h2 =>
        cases h2
        cases h1 with
        | lst hs ha =>
          have e := L2.ints_dw a.1 _ ha
          subst e
          have q : ((Codec.inLen 0 4096 a.1 && a.1.all (Codec.inInt 0 255)) && true) = true := hwi
          rw [Bool.and_eq_true, Bool.and_eq_true] at q
          have ql := (Codec.inNat_iff.mp q.1.1).2
          refine ⟨_, a.1, rfl, fun n hn => ?_, by omega, hs, fun p H' hp => .lst (L2.SqL.of hp) (L2.dw_ints _)⟩
          exact Codec.inInt_iff.mp (List.all_eq_true.mp q.1.2 n hn)
#print axioms PySem.Challenge.cw_heraldcoats_s06_read_holds
