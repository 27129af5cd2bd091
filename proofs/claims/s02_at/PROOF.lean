import PyProof.Rows.All
import Wide.All
import OpenK.AllK
import Wide.FinOn
import PyProof.EqAt
import PyProof.EqKinds
import PyProof.TupleCall
import KE.KStateDown
import Open.SpecLaws
import KE.OsGo
import HandS.ForSpec
import HandS.Comp
import HandS.Iter
import HandS.Text
import HandS.Dict
import HandS.More
import HandS.Defaults
import HandS.ExcInit
import HandS.ExcField
import HandS.NoneIn
import HandS.TupAny
import HandS.WideBits
import HandS.Conv
import HandS.Strs
import HandS.Evl
import HandS.Head0
import HandS.Head1
import HandS.Head2
import HandS.HeadHook1
import HandS.HeadHook2
import HandS.HeadHook3
import KE.GoesEnum
import KE.GoesMore
import KE.DataMinMax
import KE.DatumOrd
import HandS.Walk
import PySem.Challenge.RW_heraldcoats_s02_at
set_option Elab.async false
set_option linter.all false
set_option maxRecDepth 100000
set_option maxHeartbeats 4000000

/-! ### A. words of this claim: a def ready to be called, classes made, own errors -/
namespace Hc
open PySem PySem.Spec PyProof.Rows L2
abbrev B : Type := List UInt8
/-! #### names and constants -/
section
variable {X : Cx}
theorem pe_gi {x : Str} {i : Int} {pos : Pos} (h : ∃ t, X.mg x = some (.int i t)) (hg : Gl X x := by rfl) (hd : (x == ("__debug__" : Str)) = false := by decide) : PE X (.Name x pos) (tC (.int i)) := by
  obtain ⟨t, e⟩ := h
  exact pe_glob hg e ⟨t, rfl⟩ hd
theorem pe_gs {x z : Str} {pos : Pos} (h : ∃ t, X.mg x = some (.str z t)) (hg : Gl X x := by rfl) (hd : (x == ("__debug__" : Str)) = false := by decide) : PE X (.Name x pos) (tC (.str z)) := by
  obtain ⟨t, e⟩ := h
  exact pe_glob hg e ⟨t, rfl⟩ hd
theorem pe_gr {x : Str} {a : Addr} {pos : Pos} (h : X.mg x = some (.ref a)) (hg : Gl X x := by rfl) (hd : (x == ("__debug__" : Str)) = false := by decide) : PE X (.Name x pos) (tC (.ref a)) := pe_glob hg h rfl hd
end
/-! #### defs -/
/-- the def x of the top keeps the promise sp -/
structure Cal (P : Program) (w : World) (K : PySem.W.Frag) (mg : Str → Option Value) (base : Heap) (CX : CXT) (k : Nat) (x : Str) (ps : List Str) (sp : Sp) : Prop where
  ex : ∃ fd : FuncData, FnOk P w K mg base CX k (He.ga K x) fd ps sp ∧ Binds K fd ps []
  g : mg x = some (.ref (He.ga K x))
  kp : PySem.W.keepIn K (.ref (He.ga K x)) = true
/-- the class x of the top is made by an __init__ that keeps the promise sp -/
structure Mak (P : Program) (w : World) (K : PySem.W.Frag) (mg : Str → Option Value) (base : Heap) (k : Nat) (x : Str) (ps : List Str) (sp : Sp) : Prop where
  ex : ∃ fd : FuncData, FnOk P w K mg base CX0 k (He.ma K (He.ga K x) "__init__") fd ps sp ∧ Binds K fd ps []
  m : Mk K (He.ga K x) (He.ma K (He.ga K x) "__init__")
  g : mg x = some (.ref (He.ga K x))
/-- the same of an own error's class over ValueError -/
structure Exq (P : Program) (w : World) (K : PySem.W.Frag) (mg : Str → Option Value) (base : Heap) (k : Nat) (x : Str) (ps : List Str) (sp : Sp) : Prop where
  ex : ∃ fd : FuncData, FnOk P w K mg base CX0 k (He.ma K (He.ga K x) "__init__") fd ps sp ∧ Binds K fd ps []
  T : OexC K (He.ga K x)
  iC : PySem.W.findIn K (.ref (He.ga K x)) "__init__" = some (some (.ref (He.ma K (He.ga K x) "__init__")))
  tI : PySem.W.typeIn K (.ref (He.ma K (He.ga K x) "__init__")) = some (.type "function")
  g : mg x = some (.ref (He.ga K x))
theorem Cal.mono {P : Program} {w : World} {K : PySem.W.Frag} {mg : Str → Option Value} {base : Heap} {CX : CXT} {j k : Nat} {x : Str} {ps : List Str} {sp : Sp} (U : Cal P w K mg base CX j x ps sp) (h : j ≤ k) : Cal P w K mg base CX k x ps sp := by
  obtain ⟨⟨fd, F, b⟩, g, kp⟩ := U
  exact ⟨⟨fd, F.mono h, b⟩, g, kp⟩
theorem Cal.imp {P : Program} {w : World} {K : PySem.W.Frag} {mg : Str → Option Value} {base : Heap} {CX : CXT} {k : Nat} {x : Str} {ps : List Str} {sp sp' : Sp} (U : Cal P w K mg base CX k x ps sp) (h : ∀ vs H Q E, sp' vs H Q E → sp vs H Q E) : Cal P w K mg base CX k x ps sp' := by
  obtain ⟨⟨fd, F, b⟩, g, kp⟩ := U
  exact ⟨⟨fd, F.imp h, b⟩, g, kp⟩
section
variable {X : Cx} {CX : CXT} {k : Nat} {x : Str} {ps : List Str} {sp : Sp} {E : XK} {p pos : Pos} {e : Expr} {es : List Expr} {t : TA}
theorem pe_cal (U : Cal X.prog X.w X.K X.mg X.base CX k x ps sp) (hr : Room k X.A) (hx : Passes CX X E) (ha : PA X (e :: es) t) (hg : Gl X x := by rfl) (hdb : (x == ("__debug__" : Str)) = false := by decide)
    (he : starEach (e :: es) X.env = (false, eval e X.env) :: starEach es X.env := by rfl) (hpl : (backTo pos (starEach es X.env)).any (·.1) = false := by rfl) : PE X (.Call (.Name x p) (e :: es) [] pos) (tCall sp [] E t) := by
  obtain ⟨⟨fd, F, b⟩, g, kp⟩ := U
  exact pe_call F hr hg g kp b .nil hx ha hdb he hpl
theorem pe_cal0 (U : Cal X.prog X.w X.K X.mg X.base CX k x ps sp) (hr : Room k X.A) (hx : Passes CX X E) (hg : Gl X x := by rfl) (hdb : (x == ("__debug__" : Str)) = false := by decide) : PE X (.Call (.Name x p) [] [] pos) (tCall sp [] E tNil) := by
  obtain ⟨⟨fd, F, b⟩, g, kp⟩ := U
  exact pe_call0 F hr hg g kp b .nil hx hdb
theorem pe_calS {ES : L2.St → XK} (U : Cal X.prog X.w X.K X.mg X.base CX k x ps sp) (hr : Room k X.A) (hx : ∀ σ, PassesAt CX X σ (ES σ)) (ha : PA X (e :: es) t) (hg : Gl X x := by rfl) (hdb : (x == ("__debug__" : Str)) = false := by decide)
    (he : starEach (e :: es) X.env = (false, eval e X.env) :: starEach es X.env := by rfl) (hpl : (backTo pos (starEach es X.env)).any (·.1) = false := by rfl) : PE X (.Call (.Name x p) (e :: es) [] pos) (tCallS sp ES t) := by
  obtain ⟨⟨fd, F, b⟩, g, kp⟩ := U
  exact pe_callS F hr hg g kp b hx ha hdb he hpl
theorem pe_mak (U : Mak X.prog X.w X.K X.mg X.base k x ps sp) (hr : Room (k + 1) X.A) (ha : PA X (e :: es) t) (hg : Gl X x := by rfl) (hdb : (x == ("__debug__" : Str)) = false := by decide)
    (he : starEach (e :: es) X.env = (false, eval e X.env) :: starEach es X.env := by rfl) (hpl : (backTo pos (starEach es X.env)).any (·.1) = false := by rfl) : PE X (.Call (.Name x p) (e :: es) [] pos) (tMake (He.ga X.K x) sp [] E0 t) := by
  obtain ⟨⟨fd, F, b⟩, m, g⟩ := U
  exact pe_make m F hr hg g b .nil pass0 ha hdb he hpl
theorem pmk_exq (U : Exq X.prog X.w X.K X.mg X.base k x ps sp) (hr : Room (k + 1) X.A) (ha : PA X (e :: es) t) (hg : Gl X x := by rfl) (hdb : (x == ("__debug__" : Str)) = false := by decide)
    (he : starEach (e :: es) X.env = (false, eval e X.env) :: starEach es X.env := by rfl) (hpl : (backTo pos (starEach es X.env)).any (·.1) = false := by rfl) : PMk X (.Call (.Name x p) (e :: es) [] pos) (tMkO (He.ga X.K x) sp [] t) := by
  obtain ⟨⟨fd, F, b⟩, T, iC, tI, g⟩ := U
  exact pmk_oex T iC tI F hr b .nil pass0 hg g ha hdb he hpl
end
/-- nobody calls it -/
theorem cal_never {P : Program} {w : World} {K : PySem.W.Frag} {mg : Str → Option Value} {base : Heap} {CX : CXT} {k : Nat} {x : Str} {ps : List Str} {st : Stmt} {f : Addr} {fd : FuncData} : FnOk P w K mg base CX k f fd ps (fun _ _ _ _ => False) :=
  ⟨fun _ _ _ _ h => h.elim, fun _ _ _ _ _ _ _ _ _ _ _ _ _ h => h.elim⟩
/-! #### the class of an own error, decided -/
def oexB (K : PySem.W.Frag) (C : Addr) : Bool := match K.lookup C with
  | some ⟨.type "type", _, .cls cd, sl⟩ => (match cd.mro, sl.toList with
    | .ref C' :: bm, [_, _, _, _, some (.builtin n), _] => C' == C && n == "ValueError.__new__" && !cd.hasDel && cd.hasDict && PySem.HandSPX.refsVE bm
    | _, _ => false)
  | _ => false
theorem oexB_ok {K : PySem.W.Frag} {C : Addr} (q : oexB K C = true) : ∃ nm q N bs bm sn sub ab col dd k0 k1 k2 k3 k5, K.lookup C = some (excClassObj nm q C N bs bm true sn sub ab col dd k0 k1 k2 k3 k5 "ValueError.__new__") ∧ PySem.HandSPX.refsVE bm = true := by
  unfold oexB at q
  split at q
  · rename_i dd cd sl ho
    split at q
    · rename_i C' bm k0 k1 k2 k3 n k5 hm hs
      simp only [Bool.and_eq_true, beq_iff_eq, Bool.not_eq_true'] at q
      obtain ⟨⟨⟨⟨rfl, rfl⟩, hdel⟩, hdict⟩, ht⟩ := q
      obtain ⟨nm, bs, mro, ns, qn, hd, sn, sub, ab, col, del⟩ := cd
      dsimp only at hm hdel hdict
      subst hm hdel hdict
      have hsl : sl = #[k0, k1, k2, k3, some (.builtin "ValueError.__new__"), k5] := by
        obtain ⟨l⟩ := sl
        simp only at hs
        rw [hs]
      subst hsl
      exact ⟨nm, qn, ns, bs, bm, sn, sub, ab, col, dd, k0, k1, k2, k3, k5, ho, ht⟩
    · cases q
  · cases q
/-- what is asked of the class x of an own error whose fields are fs -/
def errB (K : PySem.W.Frag) (x : Str) (fs : List Str) : Bool :=
  oexB K (He.ga K x) && (decide (PySem.W.findIn K (.ref (He.ga K x)) "__setattr__" = some (some (.builtin "object.__setattr__"))) && (decide (PySem.W.subIn K (.ref (He.ga K x)) (.type "BaseException") = some true) &&
    (decide (PySem.W.typeIn K (.ref (He.ga K x)) = some (.type "type")) && (PySem.W.keepIn K (.ref (He.ga K x)) && (decide (PySem.W.findIn K (.ref (He.ga K x)) "__init__" = some (some (.ref (He.ma K (He.ga K x) "__init__")))) &&
    (decide (PySem.W.typeIn K (.ref (He.ma K (He.ga K x) "__init__")) = some (.type "function")) && (xfB K (He.ga K x) && (decide (PySem.W.exmOne K (.ref (He.ga K x)) (.ref (He.ga K x)) = some true) && fs.all fun f => decide (PySem.W.findIn K (.ref (He.ga K x)) f = some none)))))))))
structure ErrT (K : PySem.W.Frag) (x : Str) (fs : List Str) : Prop where
  T : OexC K (He.ga K x)
  iC : PySem.W.findIn K (.ref (He.ga K x)) "__init__" = some (some (.ref (He.ma K (He.ga K x) "__init__")))
  tI : PySem.W.typeIn K (.ref (He.ma K (He.ga K x) "__init__")) = some (.type "function")
  xf : XfC K (He.ga K x)
  me : PySem.W.exmOne K (.ref (He.ga K x)) (.ref (He.ga K x)) = some true
  no : ∀ f ∈ fs, PySem.W.findIn K (.ref (He.ga K x)) f = some none
theorem errB_ok {K : PySem.W.Frag} {x : Str} {fs : List Str} (h : errB K x fs = true) : ErrT K x fs := by
  unfold errB at h
  simp only [Bool.and_eq_true, decide_eq_true_eq, List.all_eq_true] at h
  obtain ⟨h1, h2, h3, h4, h5, h6, h7, h8, h9, h10⟩ := h
  exact ⟨⟨oexB_ok h1, h2, h3, h4, h5⟩, h6, h7, xfB_ok h8, h9, h10⟩
/-! #### the heap: what stays, what is new -/
/-- all but the object at s is as it was -/
def Bt (s : Addr) (H H' : Hp) : Prop := ∀ b o, b ≠ s → H b = some o → H' b = some o
theorem Bt.refl {s : Addr} {H : Hp} : Bt s H H := fun _ _ _ h => h
theorem Bt.trans {s : Addr} {H H1 H2 : Hp} (a : Bt s H H1) (b : Bt s H1 H2) : Bt s H H2 := fun c o n h => b c o n (a c o n h)
theorem Bt.same {s : Addr} {H H1 : Hp} (a : Same H H1) : Bt s H H1 := fun c o _ h => a c o h
theorem Bt.new {s : Addr} {H H1 : Hp} {p : Addr} {o : HO} (a : Bt s H H1) (hp : H1 p = none) : Bt s H (upd H1 p o) := fun c u n h => by
  rw [upd_ne (ne_of_none (a c u n h) hp)]
  exact a c u n h
theorem Bt.put {s : Addr} {H H1 : Hp} {o : HO} (a : Bt s H H1) : Bt s H (upd H1 s o) := fun c u n h => by
  rw [upd_ne n]
  exact a c u n h
theorem Same.new {H H1 : Hp} {p : Addr} {o : HO} (a : Same H H1) (hp : H1 p = none) : Same H (upd H1 p o) := fun c u h => by
  rw [upd_ne (ne_of_none (a c u h) hp)]
  exact a c u h
theorem Bt.seq {K : PySem.W.Frag} {s a C dx : Addr} {fs : List (Str × V)} {H H' : Hp} {xs : List V} (e : Bt s H H') (hs : H s = some (.ins C dx fs)) (h : SqL K H a xs) : SqL K H' a xs := by
  rcases h with (h | ⟨o, h⟩) | h
  · exact .inl (.inl (e _ _ (ne_of h hs (by intro z; cases z)) h))
  · exact .inl (.inr ⟨o, e _ _ (ne_of h hs (by intro z; cases z)) h⟩)
  · exact .inr h
theorem Bt.seqT {K : PySem.W.Frag} {s a C dx : Addr} {fs : List (Str × V)} {H H' : Hp} {xs : List V} (e : Bt s H H') (hs : H s = some (.ins C dx fs)) (h : SqT K H a xs) : SqT K H' a xs := by
  rcases h with (h | ⟨o, h⟩) | h
  · exact .inl (.inl (e _ _ (ne_of h hs (by intro z; cases z)) h))
  · exact .inl (.inr ⟨o, e _ _ (ne_of h hs (by intro z; cases z)) h⟩)
  · exact .inr h
/-- what H' has and H had not -/
def Dn (H H' : Hp) : Hp := fun a => match H a with
  | some _ => none
  | none => H' a
theorem dn_of {H H' : Hp} {a : Addr} {o : HO} (n : H a = none) (h : H' a = some o) : Dn H H' a = some o := by
  unfold Dn
  rw [n]
  exact h
theorem of_dn {H H' : Hp} {a : Addr} {o : HO} (h : Dn H H' a = some o) : H a = none ∧ H' a = some o := by
  unfold Dn at h
  cases q : H a with
  | none =>
    rw [q] at h
    exact ⟨rfl, h⟩
  | some u =>
    rw [q] at h
    cases h
theorem dn_same {H H' : Hp} : Same (Dn H H') H' := fun _ _ h => (of_dn h).2
theorem dn_mono {H H' G G' : Hp} (h1 : ∀ a, G a = none → H a = none) (h2 : ∀ a o, G a = none → G' a = some o → H' a = some o) : Same (Dn G G') (Dn H H') := fun a o h =>
  dn_of (h1 a (of_dn h).1) (h2 a o (of_dn h).1 (of_dn h).2)
theorem Bt.none {s : Addr} {H H' : Hp} {so : HO} (e : Bt s H H') (hs : H' s = some so) : ∀ a, H' a = Option.none → H a = Option.none := fun a h => by
  cases q : H a with
  | none => rfl
  | some o =>
    by_cases c : a = s
    · rw [c, hs] at h
      cases h
    · rw [e a o c q] at h
      cases h
end Hc
namespace Hc
open PySem PySem.Spec PyProof.Rows L2
section
variable {P : Program} {w : World} {K : PySem.W.Frag} {mg : Str → Option Value} {base : Heap} {N : List Str} {q : Str} {sc : Scope} {f : Addr} {cdv : Value} {A : Around} {outer : List Env} {s : Shared} {H : Hp} {E : XK}
theorem tkX : Takes (cxOf (L2.CX P w) P w K mg base N q sc f cdv A outer s H E) (fun cls d _ H => E cls d H) := takes_of rfl rfl rfl rfl
theorem paX : Passes (L2.CX P w) (cxOf (L2.CX P w) P w K mg base N q sc f cdv A outer s H E) E := passes_call tkX fun _ _ _ _ z => z
theorem poX {CX : CXT} : PassesOwn (model P w) (cxOf CX P w K mg base N q sc f cdv A outer s H E).A (cxOf CX P w K mg base N q sc f cdv A outer s H E).env (cxOf CX P w K mg base N q sc f cdv A outer s H E).xe := passes_of rfl
theorem p0X {X : Cx} {E : XK} : Passes CX0 X E := fun _ _ _ _ _ _ _ h => h.elim
/-- a def of the text as the top leaves it: no defaults -/
structure Def (K : PySem.W.Frag) (mg : Str → Option Value) (x : Str) (st : Stmt) (ps : List Str) : Prop where
  ex : ∃ fd : FuncData, FunD K x x (defArgs st) (defBody st) (defScope st) [] [] (He.ga K x) fd ∧ Binds K fd ps []
  g : mg x = some (.ref (He.ga K x))
theorem Def.cal {CX : CXT} {x : Str} {st : Stmt} {N ps : List Str} {k : Nat} {sp : Sp} (D : Def K mg x st ps) (S : FnScope N ps (defScope st)) (len : ∀ vs H Q E, sp vs H Q E → vs.length = ps.length)
    (hbody : ∀ (cdv : Value) (A : Around) (outer : List Env) (s : Shared) (H : Hp) (vs : List V) (Q : VK) (E : XK), Room k (A.deeper (envOfC x (defScope st) s.heap.objs.size (He.ga K x) cdv)) → sp vs H Q E →
      ∃ t, PSs (cxOf CX P w K mg base N x (defScope st) (He.ga K x) cdv A outer s H E) (defBody st) t ∧ t { nx := fun _ H' => Q .non H', rt := Q } (start N vs) H) : Cal P w K mg base CX (k + 1) x ps sp := by
  obtain ⟨⟨fd, F, b⟩, g⟩ := D
  exact ⟨⟨fd, F.ok S len hbody, b⟩, g, F.kp⟩
/-- the __init__ of the class x -/
def DefI (K : PySem.W.Frag) (x q : Str) (st : Stmt) (ps : List Str) : Prop := ∃ fd : FuncData, FunD K "__init__" q (defArgs st) (defBody st) (defScope st) [] [] (He.ma K (He.ga K x) "__init__") fd ∧ Binds K fd ps []
theorem DefI.ok {CX : CXT} {x q : Str} {st : Stmt} {N ps : List Str} {k : Nat} {sp : Sp} (D : DefI K x q st ps) (S : FnScope N ps (defScope st)) (len : ∀ vs H Q E, sp vs H Q E → vs.length = ps.length)
    (hbody : ∀ (cdv : Value) (A : Around) (outer : List Env) (s : Shared) (H : Hp) (vs : List V) (Q : VK) (E : XK), Room k (A.deeper (envOfC q (defScope st) s.heap.objs.size (He.ma K (He.ga K x) "__init__") cdv)) → sp vs H Q E →
      ∃ t, PSs (cxOf CX P w K mg base N q (defScope st) (He.ma K (He.ga K x) "__init__") cdv A outer s H E) (defBody st) t ∧ t { nx := fun _ H' => Q .non H', rt := Q } (start N vs) H) :
    ∃ fd : FuncData, FnOk P w K mg base CX (k + 1) (He.ma K (He.ga K x) "__init__") fd ps sp ∧ Binds K fd ps [] := by
  obtain ⟨fd, F, b⟩ := D
  exact ⟨fd, F.ok S len hbody, b⟩
end
end Hc

/-! ### H. the head's facts, the row's end -/
namespace Hc
open PySem PySem.Spec PyProof.Rows L2
abbrev AlY : Type := He.AlT × Bool
open PySem.W (WData Codec OpenSpec Well WellAll ReadsW ReadsAllW)
def obsY (fa : List He.Fa) (fn : List He.DefD) (ts : List He.Tab) (ex : PySem.W.Frag → Bool) (K : PySem.W.Frag) : AlY := (He.obsT fa fn ts K, ex K)
def obsYG (n : Nat) (fa : List He.Fa) (fn : List He.DefD) (ts : List He.Tab) (ex : PySem.W.Frag → Bool) (g : Addr → Option Obj) : AlY := obsY fa fn ts ex (He.frG g (He.asD g n))
def valY (fn : List He.DefD) (ts : List He.Tab) (w : World) : AlY := (He.valT fn ts w, true)
def hookY (n : Nat) (fa : List He.Fa) (fn : List He.DefD) (ts : List He.Tab) (ex : PySem.W.Frag → Bool) : PySem.W.Hook where
  α := AlY
  obs := fun s => obsYG n fa fn ts ex s.heap.get?
  val := fun w => valY fn ts w
  says := fun w h => ∃ K : PySem.W.Frag, K.In h ∧ He.SaysT fa fn ts w K ∧ ex K = true
  of := fun _ _ e => ⟨_, He.frG_in, congrArg (fun z : AlY => z.1) e, congrArg (fun z : AlY => z.2) e⟩
  keeps := fun _ _ _ ⟨K, hK, c⟩ k => ⟨K, PySem.W.Frag.In.keeps hK k, c⟩
theorem obsYG_eq {n : Nat} {fa : List He.Fa} {fn : List He.DefD} {ts : List He.Tab} {ex : PySem.W.Frag → Bool} {g : Addr → Option Obj} {s : Shared} (h : ∀ a, g a = s.heap.get? a) : obsYG n fa fn ts ex g = (hookY n fa fn ts ex).obs s := by
  have e : g = s.heap.get? := funext h
  rw [e] <;> rfl
theorem fact_of {fa : List He.Fa} {fn : List He.DefD} {K : PySem.W.Frag} (c : He.SaysD fa fn K) (i : Nat) {f : He.Fa} (h : fa[i]? = some f) : f.ok K = true := c.fact i h
/-- the goal that the head leaves, where the head's facts bring the written part -/
theorem walk_specE {r : PySem.W.OpenSpec} {k : Nat} {q : Program} {loose : List Str} {XP : (Str → Option Value) → Heap → Prop} {YP : World → Heap → Prop} {d : DefRec} {CX : CXT} {ps : List Str} {sp : PySem.W.Frag → Sp}
    (hwell : r.wellSaid = true) (hdf : d.params.defaults = []) (hlen : r.args.length = ps.length) (hr : Room k callerA)
    (F : ∀ (w : World) (mg : Str → Option Value) (fa : Addr) (h : Heap), YP w h → h.Ns mainGlobals mg → mg d.name = some (.ref fa) →
      ∃ K : PySem.W.Frag, K.In h ∧ ∃ fd : FuncData, (∀ (s : Shared) (us : List Value), us.length = ps.length → BindsTo s fd ⟨us, []⟩ (ps.zip us)) ∧
        ∀ base : Heap, K.In base → base.Ns mainGlobals mg → FnOk r.prog w K mg base CX k fa fd ps (sp K))
    (hsp : ∀ (K : PySem.W.Frag) (H : Hp) (xs : List V) (a : PySem.W.Codec.denoteAll r.args), OnlyF H → PySem.W.Codec.withinAll r.args a = true → PySem.W.Codec.app r.args r.asked a = true → DwAll K H xs (PySem.W.Codec.encAll r.args a) →
      sp K xs H (fun v H' => Dw K H' v (r.ret.enc (PySem.W.Codec.app r.args r.f a))) fun _ _ _ => False)
    (hCX : ∀ (H : Hp) (s : Shared) (e : Value) (s' : Shared), CX [] H s (fun _ _ _ => False) e s' → False) :
    PySem.W.WalkOS q loose XP YP r d [] (fun f vs => PySem.call f vs) := by
  intro w s₀ s₁ mg mb G Y fa o pm cd doc dV kV ho hd hcd hD hmg hg args vals as hpre hlay hrd hwl hlo
  obtain ⟨a, e1, e2⟩ := PySem.W.os_pre_some hpre
  obtain ⟨e3, hwi⟩ := PySem.W.Codec.encAll_of_decAll r.args args a e1
  subst e3
  obtain ⟨K, KX, fd, hb, hF⟩ := F w mg fa _ Y G.T.g hmg
  refine PySem.W.enter_call (codeAny_mono (spec_call (R := []) (cl := classAt s₀.heap) (d0 := r.ret.enc (PySem.W.Codec.app r.args r.f a)) KX G.T.g G.T.b G.T.builtins G.T.nolimit hg hwl (pl_encAll _ _) (layable_weight hlay) hr hF hb (by rw [encAll_len]; exact hlen)
    (fun H xs hO hS => hsp K H xs a hO hwi e2 hS) fun H e s' => hCX H s₁ e s') fun r' s' hq => ?_)
  obtain ⟨u, as', rfl, h1, h2, h3, h4⟩ := hq
  exact ⟨.inl ⟨u, _, as', rfl, fun _ => rfl, h1, (PySem.W.OpenSpec.post_iff hwell hwi _ _).mpr rfl, fun z => Bool.noConfusion (show false = true from z)⟩, h2, h3, h4⟩
end Hc

/-! ### C. coats' bytes read: what stands in the heap, the promises -/
namespace Hc
open PySem PySem.Spec PyProof.Rows L2
def bv (b : UInt8) : V := .int (b.toNat : Int)
def srcF (c : Addr) (k : Nat) : List (Str × V) := [("some", .ref c), ("at", .int k)]
/-- a reader of the class at C stands at s: the bytes bs, read up to k -/
structure Src (K : PySem.W.Frag) (C : Addr) (H : Hp) (s dx c : Addr) (bs : B) (k : Nat) : Prop where
  ob : H s = some (.ins C dx (srcF c k))
  sq : SqL K H c (bs.map bv)
  le : k ≤ bs.length
  big : bs.length ≤ 5000
theorem Src.bt {K : PySem.W.Frag} {C : Addr} {H H' : Hp} {s dx c : Addr} {bs : B} {k k' : Nat} (S : Src K C H s dx c bs k) (e : Bt s H H') (ob : H' s = some (.ins C dx (srcF c k'))) (le : k' ≤ bs.length) : Src K C H' s dx c bs k' :=
  ⟨ob, e.seq S.ob S.sq, le, S.big⟩
/-- a reader's def: the error told, or the value that stands for what was read, new in the heap -/
structure RdP {α : Type} (K : PySem.W.Frag) (C N : Addr) (rd : Nat → B → Except Nat (α × Nat × B)) (Is : Hp → V → α → Prop) (H : Hp) (s dx c : Addr) (bs : B) (k : Nat) (Q : VK) (E : XK) : Prop where
  err : ∀ e, rd k (bs.drop k) = .error e → ∀ (d : Addr) H', Bt s H H' → H' d = some (.xd [("place", .int (e : Nat))]) → E (.ref N) (some d) H'
  ok : ∀ a p', rd k (bs.drop k) = .ok (a, p', bs.drop p') → ∀ v H', Bt s H H' → Src K C H' s dx c bs p' → Is (Dn H H') v a → Q v H'
/-- its arguments: the reader, then those of ws i; pre i: what else stands in the heap -/
def spRd {ι α : Type} (K : PySem.W.Frag) (ws : ι → List V) (pre : ι → Hp → Prop) (rd : ι → Nat → B → Except Nat (α × Nat × B)) (Is : Hp → V → α → Prop) : Sp := fun vs H Q E => ∃ (i : ι) (s dx c : Addr) (bs : B) (k : Nat), vs = .ref s :: ws i ∧ pre i H ∧ Src K (He.ga K "Bytes") H s dx c bs k ∧
  RdP K (He.ga K "Bytes") (He.ga K "NoCoat") (rd i) Is H s dx c bs k Q E
def IsInt : Hp → V → Nat → Prop := fun _ v n => v = .int (n : Int)
/-- read_byte -/
abbrev spByte (K : PySem.W.Frag) : Sp := spRd (ι := Nat × Nat) K (fun i => [.int (i.1 : Int), .int (i.2 : Int)]) (fun _ _ => True) (fun i => Sh.numAt i.1 i.2 Sh.ANY) IsInt
/-- the promise of an own error's __init__(self, place) -/
def spErr1 (K : PySem.W.Frag) (x : Str) : Sp := fun vs H Q _ => ∃ (a : Addr) (v : V), vs = [.ref a, v] ∧ H a = some (exo a (He.ga K x) none) ∧
  ∀ dx, H dx = none → dx ≠ a → Q .non (upd (upd H dx (exd dx [("place", v)])) a (exo a (He.ga K x) (some dx)))
theorem raise1 {K : PySem.W.Frag} {x : Str} {H1 : Hp} {v : V} {W : XK} (k : ∀ (d : Addr) H', Same H1 H' → H1 d = none → H' d = some (.xd [("place", v)]) → W (.ref (He.ga K x)) (some d) H') :
    (fun (vs : List V) (H1 : Hp) => vs.length ≤ 1000 ∧ ∀ a, H1 a = none → spErr1 K x (.ref a :: (vs ++ [])) (upd H1 a (exo a (He.ga K x) none))
      (fun v H2 => v = .non ∧ ∃ (d : Addr) (fs : List (Str × V)), H2 a = some (exo a (He.ga K x) (some d)) ∧ H2 d = some (exd d fs) ∧ H1 d = none ∧ W (.ref (He.ga K x)) (some d) (upd (del H2 a) d (.xd fs))) (fun _ _ _ => False)) [v] H1 := by
  refine ⟨by show 1 ≤ 1000; decide, fun a ha => ⟨a, v, rfl, upd_same, fun dx hd ne => ⟨rfl, dx, [("place", v)], upd_same, ?_, ?_, ?_⟩⟩⟩
  · rw [upd_ne ne, upd_same]
  · rw [upd_ne ne] at hd
    exact hd
  · have hd1 : H1 dx = none := by
      rw [upd_ne ne] at hd
      exact hd
    refine k dx _ (fun b o q => ?_) hd1 upd_same
    have nb : b ≠ dx := ne_of_none q hd1
    have na : b ≠ a := ne_of_none q ha
    rw [upd_ne nb, del_ne na, upd_ne na, upd_ne nb, upd_ne na]
    exact q
theorem atI_nat {α : Type} {xs : List α} {j : Nat} {x : α} (h : xs[j]? = some x) : atI xs (j : Int) = some x := by
  unfold atI ixN
  have hj : j < xs.length := (List.getElem?_eq_some_iff.mp h).1
  rw [if_pos (by omega), if_pos (by omega)]
  simpa using h
theorem iteB {c : Bool} {A B : Prop} (h1 : c = true → A) (h2 : c = false → B) : if c = true then A else B := by
  cases c with
  | true => exact h1 rfl
  | false => exact h2 rfl
end Hc
namespace Hc
open PySem PySem.Spec PyProof.Rows L2
theorem srcF_put {c : Addr} {k j : Nat} : putF "at" (.int ((k : Int) + (j : Int))) (srcF c k) = srcF c (k + j) := by
  have e : ((k : Int) + (j : Int)) = ((k + j : Nat) : Int) := by omega
  rw [e] <;> rfl
theorem num_ok {lo hi x p : Nat} {b : UInt8} {r : B} (h1 : lo ≤ b.toNat) (h2 : b.toNat ≤ hi) (h3 : b.toNat ≠ x) : Sh.numAt lo hi x p (b :: r) = .ok (b.toNat, p + 1, r) := by
  show (if b.toNat < lo ∨ hi < b.toNat ∨ b.toNat = x then _ else _) = _
  rw [if_neg (by omega)]
theorem num_no {lo hi x p : Nat} {b : UInt8} {r : B} (h : b.toNat < lo ∨ hi < b.toNat ∨ b.toNat = x) : Sh.numAt lo hi x p (b :: r) = .error p := by
  show (if b.toNat < lo ∨ hi < b.toNat ∨ b.toNat = x then _ else _) = _
  rw [if_pos h]
end Hc
namespace Hc
open PySem PySem.Spec PyProof.Rows L2
theorem Src.put {K : PySem.W.Frag} {C : Addr} {H : Hp} {s dx c : Addr} {bs : B} {k j : Nat} {fs : List (Str × V)} (S : Src K C H s dx c bs k) (e : fs = srcF c j) (le : j ≤ bs.length) : Src K C (upd H s (.ins C dx fs)) s dx c bs j :=
  S.bt Bt.refl.put (by rw [e]; exact upd_same) le
end Hc
namespace Hc
open PySem PySem.Spec PyProof.Rows L2
/-! #### what a byte's reading says -/
theorem num_is {lo hi x p : Nat} {b : B} {n p' : Nat} {r : B} (h : Sh.numAt lo hi x p b = .ok (n, p', r)) : p' = p + 1 ∧ lo ≤ n ∧ n ≤ hi ∧ n ≠ x ∧ n < 256 := by
  cases b with
  | nil => cases h
  | cons c t =>
    by_cases q : c.toNat < lo ∨ hi < c.toNat ∨ c.toNat = x
    · rw [num_no q] at h
      cases h
    · rw [num_ok (by omega) (by omega) (by omega)] at h
      cases h
      have := c.toNat_lt
      exact ⟨rfl, by omega, by omega, by omega, by omega⟩
theorem num_err {lo hi x p : Nat} {b : B} {e : Nat} (h : Sh.numAt lo hi x p b = .error e) : e = p := by
  cases b with
  | nil =>
    cases h
    rfl
  | cons c t =>
    by_cases q : c.toNat < lo ∨ hi < c.toNat ∨ c.toNat = x
    · rw [num_no q] at h
      cases h
      rfl
    · rw [num_ok (by omega) (by omega) (by omega)] at h
      cases h
/-- the same, one number left out -/
theorem num_but {lo hi x p : Nat} {b : B} {n p' : Nat} {r : B} (h : Sh.numAt lo hi Sh.ANY p b = .ok (n, p', r)) : Sh.numAt lo hi x p b = if n = x then .error p else .ok (n, p', r) := by
  cases b with
  | nil => cases h
  | cons c t =>
    by_cases q : c.toNat < lo ∨ hi < c.toNat ∨ c.toNat = Sh.ANY
    · rw [num_no q] at h
      cases h
    · rw [num_ok (by omega) (by omega) (by omega)] at h
      cases h
      by_cases q2 : c.toNat = x
      · rw [if_pos q2, num_no (.inr (.inr q2))]
      · rw [if_neg q2, num_ok (by omega) (by omega) q2]
theorem num_but_err {lo hi x p : Nat} {b : B} {e : Nat} (h : Sh.numAt lo hi Sh.ANY p b = .error e) (hi255 : hi < 256) : Sh.numAt lo hi x p b = .error e := by
  have ep := num_err h
  subst ep
  cases b with
  | nil => exact h
  | cons c t =>
    by_cases q : c.toNat < lo ∨ hi < c.toNat ∨ c.toNat = x
    · exact num_no q
    · have := c.toNat_lt
      rw [num_ok (by omega) (by omega) (by unfold Sh.ANY; omega)] at h
      cases h
/-! #### what stands for a field, a layer, arms, a coat -/
open Sh ShMarsh
def iv (n : Nat) : V := .int (n : Int)
def fieldV : Field → List V
  | .plain t => [iv 0, iv t]
  | .parted d l a b => [iv 1, iv d, iv l, iv a, iv b]
  | .varied v n l a b => [iv 2, iv v, iv n, iv l, iv a, iv b]
def IsTwo : Hp → V → Nat × Nat → Prop := fun D v x => ∃ p, v = .ref p ∧ D p = some (.tup [iv x.1, iv x.2])
def IsField : Hp → V → Field → Prop := fun D v f => ∃ p, v = .ref p ∧ D p = some (.tup (fieldV f))
def IsFill : Hp → V → Fill → Prop
  | D, v, .solid f => IsField D v f
  | _, v, .counter => v = .non
def layF (k : Nat) (n : Addr) (fv : V) : List (Str × V) := [("kind", iv k), ("numbers", .ref n), ("fill", fv)]
def layK : Layer → Nat
  | .ord _ _ _ => 0
  | .group _ _ _ _ _ => 1
def layN : Layer → List V
  | .ord o l _ => [iv o, iv l]
  | .group c n m s _ => [iv c, iv n, iv m, iv s]
def IsLayer (K : PySem.W.Frag) : Hp → V → Layer → Prop := fun D v l => ∃ (a dx n : Addr) (fv : V), v = .ref a ∧ D a = some (.ins (He.ga K "Layer") dx (layF (layK l) n fv)) ∧ D n = some (.lst (layN l)) ∧ IsFill D fv l.fill
def armF (fv : V) (l : Addr) : List (Str × V) := [("field", fv), ("layers", .ref l)]
def IsArms (K : PySem.W.Frag) : Hp → V → Arms → Prop := fun D v a => ∃ (x dx l : Addr) (fv : V) (vs : List V), v = .ref x ∧ D x = some (.ins (He.ga K "Arms") dx (armF fv l)) ∧ IsField D fv a.field ∧ D l = some (.lst vs) ∧ Paired (IsLayer K D) vs a.layers
def IsMark : Hp → V → Nat × Nat → Prop := IsTwo
def IsCant (K : PySem.W.Frag) : Hp → V → Option Arms → Prop
  | D, v, some a => IsArms K D v a
  | _, v, none => v = .non
def coaF (k : Nat) (av cv : V) (ml cl : Addr) : List (Str × V) := [("kind", iv k), ("arms", av), ("canton", cv), ("marks", .ref ml), ("coats", .ref cl)]
def IsMarked (K : PySem.W.Frag) : Hp → V → Marked → Prop := fun D v m => ∃ (x dx ml cl : Addr) (av cv : V) (ms : List V), v = .ref x ∧ D x = some (.ins (He.ga K "Coat") dx (coaF 0 av cv ml cl)) ∧ IsArms K D av m.arms ∧ IsCant K D cv m.canton ∧ D ml = some (.lst ms) ∧ Paired (IsMark D) ms m.marks ∧ D cl = some (.lst [])
mutual
def IsCoat (K : PySem.W.Frag) (D : Hp) : V → Coat → Prop
  | v, .one m => IsMarked K D v m
  | v, .quarters l => ∃ (x dx ml cl : Addr) (vs : List V), v = .ref x ∧ D x = some (.ins (He.ga K "Coat") dx (coaF 1 .non .non ml cl)) ∧ D ml = some (.lst []) ∧ D cl = some (.lst vs) ∧ IsCoats K D vs l
  | v, .impaled a b => ∃ (x dx ml cl : Addr) (va vb : V), v = .ref x ∧ D x = some (.ins (He.ga K "Coat") dx (coaF 2 .non .non ml cl)) ∧ D ml = some (.lst []) ∧ D cl = some (.lst [va, vb]) ∧ IsCoat K D va a ∧ IsCoat K D vb b
  | v, .pretence a b => ∃ (x dx ml cl : Addr) (va vb : V), v = .ref x ∧ D x = some (.ins (He.ga K "Coat") dx (coaF 3 .non .non ml cl)) ∧ D ml = some (.lst []) ∧ D cl = some (.lst [va, vb]) ∧ IsCoat K D va a ∧ IsCoat K D vb b
def IsCoats (K : PySem.W.Frag) (D : Hp) : List V → List Coat → Prop
  | [], [] => True
  | v :: vs, c :: cs => IsCoat K D v c ∧ IsCoats K D vs cs
  | _, _ => False
end
theorem Paired.up {α : Type} {F G : V → α → Prop} {xs : List V} {ys : List α} (h : Paired F xs ys) (m : ∀ v a, F v a → G v a) : Paired G xs ys := L2.Paired.mapP h m
theorem Paired.snoc {α : Type} {F : V → α → Prop} : ∀ {xs : List V} {ys : List α} {x : V} {y : α}, Paired F xs ys → F x y → Paired F (xs ++ [x]) (ys ++ [y])
  | _, _, _, _, .nil, h => .cons h .nil
  | _, _, _, _, .cons r t, h => .cons r (Paired.snoc t h)
section
variable {K : PySem.W.Frag} {D D' : Hp} (e : Same D D')
include e
theorem IsTwo.up {v : V} {x : Nat × Nat} (h : IsTwo D v x) : IsTwo D' v x := let ⟨p, h1, h2⟩ := h; ⟨p, h1, e _ _ h2⟩
theorem IsField.up {v : V} {x : Field} (h : IsField D v x) : IsField D' v x := let ⟨p, h1, h2⟩ := h; ⟨p, h1, e _ _ h2⟩
theorem IsFill.up {v : V} : ∀ {x : Fill}, IsFill D v x → IsFill D' v x
  | .solid _, h => IsField.up e h
  | .counter, h => h
theorem IsLayer.up {v : V} {x : Layer} (h : IsLayer K D v x) : IsLayer K D' v x := let ⟨a, dx, n, fv, h1, h2, h3, h4⟩ := h; ⟨a, dx, n, fv, h1, e _ _ h2, e _ _ h3, h4.up e⟩
theorem IsArms.up {v : V} {x : Arms} (h : IsArms K D v x) : IsArms K D' v x := let ⟨a, dx, l, fv, vs, h1, h2, h3, h4, h5⟩ := h; ⟨a, dx, l, fv, vs, h1, e _ _ h2, h3.up e, e _ _ h4, Paired.up h5 fun _ _ z => IsLayer.up e z⟩
theorem IsCant.up {v : V} : ∀ {x : Option Arms}, IsCant K D v x → IsCant K D' v x
  | some _, h => IsArms.up e h
  | none, h => h
theorem IsMarked.up {v : V} {x : Marked} (h : IsMarked K D v x) : IsMarked K D' v x :=
  let ⟨x, dx, ml, cl, av, cv, ms, h1, h2, h3, h4, h5, h6, h7⟩ := h
  ⟨x, dx, ml, cl, av, cv, ms, h1, e _ _ h2, h3.up e, h4.up e, e _ _ h5, Paired.up h6 fun _ _ z => IsTwo.up e z, e _ _ h7⟩
mutual
theorem IsCoat.up : ∀ {v : V} {x : Coat}, IsCoat K D v x → IsCoat K D' v x
  | _, .one _, h => IsMarked.up e (by unfold IsCoat at h; exact h) |> fun z => by unfold IsCoat; exact z
  | _, .quarters _, h => by
    unfold IsCoat at h ⊢
    obtain ⟨x, dx, ml, cl, vs, h1, h2, h3, h4, h5⟩ := h
    exact ⟨x, dx, ml, cl, vs, h1, e _ _ h2, e _ _ h3, e _ _ h4, IsCoats.up h5⟩
  | _, .impaled _ _, h => by
    unfold IsCoat at h ⊢
    obtain ⟨x, dx, ml, cl, va, vb, h1, h2, h3, h4, h5, h6⟩ := h
    exact ⟨x, dx, ml, cl, va, vb, h1, e _ _ h2, e _ _ h3, e _ _ h4, IsCoat.up h5, IsCoat.up h6⟩
  | _, .pretence _ _, h => by
    unfold IsCoat at h ⊢
    obtain ⟨x, dx, ml, cl, va, vb, h1, h2, h3, h4, h5, h6⟩ := h
    exact ⟨x, dx, ml, cl, va, vb, h1, e _ _ h2, e _ _ h3, e _ _ h4, IsCoat.up h5, IsCoat.up h6⟩
theorem IsCoats.up : ∀ {vs : List V} {xs : List Coat}, IsCoats K D vs xs → IsCoats K D' vs xs
  | [], [], _ => by unfold IsCoats; trivial
  | _ :: _, _ :: _, h => by
    unfold IsCoats at h ⊢
    exact ⟨IsCoat.up h.1, IsCoats.up h.2⟩
  | [], _ :: _, h => by unfold IsCoats at h; exact h.elim
  | _ :: _, [], h => by unfold IsCoats at h; exact h.elim
end
end
end Hc

namespace Hc
open PySem PySem.Spec PyProof.Rows L2
open Sh ShMarsh
/-! #### the promises of the __init__s, and what a maker of an object gets -/
/-- behind the making and an __init__ that changes the new object alone -/
theorem Same.made2 {H H' : Hp} {x dx : Addr} {o u : HO} (nx : H x = none) (nd : H dx = none) (e : Bt x (upd (upd H dx o) x u) H') : Same H H' := fun b q h => by
  have n1 : b ≠ x := ne_of_none h nx
  have n2 : b ≠ dx := ne_of_none h nd
  exact e b q n1 (by rw [upd_ne n1, upd_ne n2]; exact h)
def spI_Bytes (K : PySem.W.Frag) (C : Str) : Sp := fun vs H Q _ => ∃ (x dx c : Addr), vs = [.ref x, .ref c] ∧ H x = some (.ins (He.ga K C) dx []) ∧ ∀ H', Bt x H H' → H' x = some (.ins (He.ga K C) dx (srcF c 0)) → Q .non H'
def spI_Layer (K : PySem.W.Frag) : Sp := fun vs H Q _ => ∃ (x dx : Addr) (a b c : V), vs = [.ref x, a, b, c] ∧ H x = some (.ins (He.ga K "Layer") dx []) ∧ ∀ H', Bt x H H' → H' x = some (.ins (He.ga K "Layer") dx [("kind", a), ("numbers", b), ("fill", c)]) → Q .non H'
def spI_Arms (K : PySem.W.Frag) : Sp := fun vs H Q _ => ∃ (x dx : Addr) (f : V), vs = [.ref x, f] ∧ H x = some (.ins (He.ga K "Arms") dx []) ∧
  ∀ H' l, Bt x H H' → H l = none → H' x = some (.ins (He.ga K "Arms") dx (armF f l)) → H' l = some (.lst []) → Q .non H'
def spI_Coat (K : PySem.W.Frag) : Sp := fun vs H Q _ => ∃ (x dx : Addr) (k : Nat), vs = [.ref x, iv k] ∧ H x = some (.ins (He.ga K "Coat") dx []) ∧
  ∀ H' ml cl, Bt x H H' → H ml = none → H cl = none → ml ≠ cl → H' x = some (.ins (He.ga K "Coat") dx (coaF k .non .non ml cl)) → H' ml = some (.lst []) → H' cl = some (.lst []) → Q .non H'
section
variable {K : PySem.W.Frag} {H1 : Hp} {Q : Addr → Hp → Prop} {E : XK}
theorem mk_Bytes {C : Str} {c : Addr} (k : ∀ x dx H', H1 x = none → Same H1 H' → H' x = some (.ins (He.ga K C) dx (srcF c 0)) → Q x H') :
    ∀ x dx, H1 x = none → H1 dx = none → dx ≠ x → spI_Bytes K C (.ref x :: ([.ref c] ++ [])) (upd (upd H1 dx (.own x)) x (.ins (He.ga K C) dx [])) (fun v H2 => v = .non ∧ Q x H2) E :=
  fun x dx nx nd ne => ⟨x, dx, c, rfl, upd_same, fun H' e h => ⟨rfl, k x dx H' nx (Same.made2 nx nd e) h⟩⟩
theorem mk_Layer {a b c : V} (k : ∀ x dx H', H1 x = none → Same H1 H' → H' x = some (.ins (He.ga K "Layer") dx [("kind", a), ("numbers", b), ("fill", c)]) → Q x H') :
    ∀ x dx, H1 x = none → H1 dx = none → dx ≠ x → spI_Layer K (.ref x :: ([a, b, c] ++ [])) (upd (upd H1 dx (.own x)) x (.ins (He.ga K "Layer") dx [])) (fun v H2 => v = .non ∧ Q x H2) E :=
  fun x dx nx nd ne => ⟨x, dx, a, b, c, rfl, upd_same, fun H' e h => ⟨rfl, k x dx H' nx (Same.made2 nx nd e) h⟩⟩
theorem two_none {H : Hp} {x dx l : Addr} {o u : HO} (h : upd (upd H dx o) x u l = none) : H l = none ∧ l ≠ x ∧ l ≠ dx := by
  have n1 : l ≠ x := fun z => by
    rw [z, upd_same] at h
    cases h
  rw [upd_ne n1] at h
  have n2 : l ≠ dx := fun z => by
    rw [z, upd_same] at h
    cases h
  rw [upd_ne n2] at h
  exact ⟨h, n1, n2⟩
theorem mk_Arms {f : V} (k : ∀ x dx l H', H1 x = none → H1 l = none → Same H1 H' → H' x = some (.ins (He.ga K "Arms") dx (armF f l)) → H' l = some (.lst []) → Q x H') :
    ∀ x dx, H1 x = none → H1 dx = none → dx ≠ x → spI_Arms K (.ref x :: ([f] ++ [])) (upd (upd H1 dx (.own x)) x (.ins (He.ga K "Arms") dx [])) (fun v H2 => v = .non ∧ Q x H2) E :=
  fun x dx nx nd ne => ⟨x, dx, f, rfl, upd_same, fun H' l e nl h hl => ⟨rfl, k x dx l H' nx (two_none nl).1 (Same.made2 nx nd e) h hl⟩⟩
theorem mk_Coat {n : Nat} (k : ∀ x dx ml cl H', H1 x = none → H1 ml = none → H1 cl = none → ml ≠ cl → Same H1 H' → H' x = some (.ins (He.ga K "Coat") dx (coaF n .non .non ml cl)) → H' ml = some (.lst []) → H' cl = some (.lst []) → Q x H') :
    ∀ x dx, H1 x = none → H1 dx = none → dx ≠ x → spI_Coat K (.ref x :: ([iv n] ++ [])) (upd (upd H1 dx (.own x)) x (.ins (He.ga K "Coat") dx [])) (fun v H2 => v = .non ∧ Q x H2) E :=
  fun x dx nx nd ne => ⟨x, dx, n, rfl, upd_same, fun H' ml cl e nm nc hne h hm hc => ⟨rfl, k x dx ml cl H' nx (two_none nm).1 (two_none nc).1 hne (Same.made2 nx nd e) h hm hc⟩⟩
end
/-- args of a reader's def with a field below: the arms at ar hold the field f -/
def armsPre (K : PySem.W.Frag) : Addr × Field → Hp → Prop := fun i H => ∃ (dx ff l : Addr), H i.1 = some (.ins (He.ga K "Arms") dx (armF (.ref ff) l)) ∧ H ff = some (.tup (fieldV i.2))
theorem armsPre.bt {K : PySem.W.Frag} {i : Addr × Field} {C s dx c : Addr} {k : Nat} {H H' : Hp} (h : armsPre K i H) (hs : H s = some (.ins C dx (srcF c k))) (e : Bt s H H') : armsPre K i H' := by
  obtain ⟨dx', ff, l, h1, h2⟩ := h
  refine ⟨dx', ff, l, e _ _ (ne_of h1 hs ?_) h1, e _ _ (ne_of h2 hs (by intro z; cases z)) h2⟩
  intro z
  have q : armF (.ref ff) l = srcF c k := by injection z
  have q1 : (("field" : Str), V.ref ff) = (("some" : Str), V.ref c) := (List.cons.inj q).1
  exact absurd (show ("field" : Str) = "some" from congrArg Prod.fst q1) (by decide +kernel)
abbrev spTwo (K : PySem.W.Frag) : Sp := spRd (ι := Unit) K (fun _ => []) (fun _ _ => True) (fun _ => Sh.twoAt) IsTwo
abbrev spField (K : PySem.W.Frag) : Sp := spRd (ι := Unit) K (fun _ => []) (fun _ _ => True) (fun _ => Sh.fieldAt) IsField
abbrev spFill (K : PySem.W.Frag) : Sp := spRd (ι := Addr × Field) K (fun i => [.ref i.1]) (armsPre K) (fun i => Sh.fillAt i.2) IsFill
abbrev spLayer (K : PySem.W.Frag) : Sp := spRd (ι := Addr × Field) K (fun i => [.ref i.1]) (armsPre K) (fun i => Sh.layerAt i.2) (IsLayer K)
abbrev spArms (K : PySem.W.Frag) : Sp := spRd (ι := Unit) K (fun _ => []) (fun _ _ => True) (fun _ => armsFrom) (IsArms K)
abbrev spMarked (K : PySem.W.Frag) : Sp := spRd (ι := Unit) K (fun _ => []) (fun _ _ => True) (fun _ => markedFrom) (IsMarked K)
end Hc

namespace Hc
open PySem PySem.Spec PyProof.Rows L2
open Sh ShMarsh
/-- all but the objects at s and l is as it was -/
def Bt2 (s l : Addr) (H H' : Hp) : Prop := ∀ b o, b ≠ s → b ≠ l → H b = some o → H' b = some o
theorem Bt2.of {s l : Addr} {H H' : Hp} (e : Bt s H H') : Bt2 s l H H' := fun b o n _ h => e b o n h
theorem Bt2.trans {s l : Addr} {H H1 H2 : Hp} (a : Bt2 s l H H1) (b : Bt2 s l H1 H2) : Bt2 s l H H2 := fun c o n m h => b c o n m (a c o n m h)
theorem Bt2.put {s l : Addr} {H H' : Hp} {o : HO} (e : Bt2 s l H H') : Bt2 s l H (upd H' l o) := fun b u n m h => by
  rw [upd_ne m]
  exact e b u n m h
theorem Bt2.none {s l : Addr} {H H' : Hp} {so lo : HO} (e : Bt2 s l H H') (hs : H' s = some so) (hl : H' l = some lo) : ∀ a, H' a = Option.none → H a = Option.none := fun a h => by
  cases q : H a with
  | none => rfl
  | some o =>
    by_cases c : a = s
    · rw [c, hs] at h
      cases h
    · by_cases c2 : a = l
      · rw [c2, hl] at h
        cases h
      · rw [e a o c c2 q] at h
        cases h
/-- what is new since G stays where the objects at s and l, which G has, alone may change -/
theorem Bt2.dn {s l : Addr} {G H H' : Hp} {so lo : HO} (e : Bt2 s l H H') (hs : G s = some so) (hl : G l = some lo) : Same (Dn G H) (Dn G H') := dn_mono (fun _ h => h) fun a o n h =>
  e a o (fun z => by rw [z, hs] at n; cases n) (fun z => by rw [z, hl] at n; cases n) h
theorem Bt2.drop {s l : Addr} {G H H' : Hp} (a : Bt s G H) (nl : H l = Option.none) (e : Bt2 s l H H') : Bt s G H' := fun b o n h => e b o n (ne_of_none (a b o n h) nl) (a b o n h)
/-- all but the objects at M is as it was -/
def BtM (M : List Addr) (H H' : Hp) : Prop := ∀ b o, b ∉ M → H b = some o → H' b = some o
theorem BtM.of {M : List Addr} {s : Addr} {H H' : Hp} (e : Bt s H H') (hs : s ∈ M) : BtM M H H' := fun b o n h => e b o (fun z => n (z ▸ hs)) h
theorem BtM.same {M : List Addr} {H H' : Hp} (e : Same H H') : BtM M H H' := fun b o _ h => e b o h
theorem BtM.trans {M : List Addr} {H H1 H2 : Hp} (a : BtM M H H1) (b : BtM M H1 H2) : BtM M H H2 := fun c o n h => b c o n (a c o n h)
theorem BtM.put {M : List Addr} {l : Addr} {H H' : Hp} {o : HO} (e : BtM M H H') (hl : l ∈ M) : BtM M H (upd H' l o) := fun b u n h => by
  rw [upd_ne (fun z : b = l => n (by rw [z]; exact hl))]
  exact e b u n h
theorem BtM.new {M : List Addr} {H H' : Hp} {p : Addr} {o : HO} (e : BtM M H H') (hp : H' p = Option.none) : BtM M H (upd H' p o) := fun b u n h => by
  rw [upd_ne (ne_of_none (e b u n h) hp)]
  exact e b u n h
theorem BtM.none {M : List Addr} {H H' : Hp} (e : BtM M H H') (hM : ∀ m ∈ M, H' m ≠ Option.none) : ∀ a, H' a = Option.none → H a = Option.none := fun a h => by
  cases q : H a with
  | none => rfl
  | some o =>
    by_cases c : a ∈ M
    · exact absurd h (hM a c)
    · rw [e a o c q] at h
      cases h
theorem BtM.dn {M : List Addr} {G H H' : Hp} (e : BtM M H H') (hM : ∀ m ∈ M, G m ≠ Option.none) : Same (Dn G H) (Dn G H') := dn_mono (fun _ h => h) fun a o n h => e a o (fun z => hM a z n) h
theorem BtM.drop {M : List Addr} {s : Addr} {G H H' : Hp} (a : Bt s G H) (nl : ∀ m ∈ M, m = s ∨ H m = Option.none) (e : BtM M H H') : Bt s G H' := fun b o n h => e b o (fun z => by
  rcases nl b z with q | q
  · exact n q
  · exact ne_of_none (a b o n h) q rfl) (a b o n h)
/-- a list's reading, so far: the first ls are read, up to p; how it goes on -/
def goesOn {α : Type} (all rest : Except Nat (List α × Nat × B)) (ls : List α) : Prop := all = match rest with
  | .error e => .error e
  | .ok r => .ok (ls ++ r.1, r.2)
theorem goesOn.err {α : Type} {all rest : Except Nat (List α × Nat × B)} {ls : List α} {e : Nat} (h : goesOn all rest ls) (q : rest = .error e) : all = .error e := by
  unfold goesOn at h
  rw [h, q]
theorem goesOn.ok {α : Type} {all rest : Except Nat (List α × Nat × B)} {ls : List α} {p : Nat} {b : B} (h : goesOn all rest ls) (q : rest = .ok ([], p, b)) : all = .ok (ls, p, b) := by
  unfold goesOn at h
  rw [h, q]
  show Except.ok (ls ++ [], p, b) = _
  rw [List.append_nil]
theorem goesOn.start {α : Type} {all : Except Nat (List α × Nat × B)} : goesOn all all [] := by
  unfold goesOn
  cases all with
  | error e => rfl
  | ok r => rfl
theorem goesOn.turn {α : Type} {all rest rest' : Except Nat (List α × Nat × B)} {ls : List α} {x : α} (h : goesOn all rest ls) (q1 : ∀ e, rest' = .error e → rest = .error e) (q2 : ∀ r, rest' = .ok r → rest = .ok (x :: r.1, r.2)) : goesOn all rest' (ls ++ [x]) := by
  unfold goesOn at h ⊢
  cases e : rest' with
  | error e' => rw [h, q1 _ e]
  | ok r =>
    rw [h, q2 _ e]
    show Except.ok (ls ++ x :: r.1, r.2) = Except.ok (ls ++ [x] ++ r.1, r.2)
    rw [List.append_assoc]
    rfl
end Hc

/-! ### D. what is due, by bytes -/
namespace Hc
open PySem PySem.Spec PyProof.Rows L2
open Sh ShMarsh
def inB (ns : List Int) : Prop := ∀ n ∈ ns, 0 ≤ n ∧ n ≤ 255
def toB (ns : List Int) : B := ns.map fun n => UInt8.ofNat n.toNat
theorem toB_bv : ∀ {ns : List Int}, inB ns → ns.map V.int = (toB ns).map bv
  | [], _ => rfl
  | n :: ns, h => by
    have h1 := h n (List.mem_cons_self ..)
    have h2 : inB ns := fun m hm => h m (List.mem_cons_of_mem _ hm)
    show V.int n :: ns.map V.int = bv (UInt8.ofNat n.toNat) :: (toB ns).map bv
    rw [toB_bv h2]
    have e : ((UInt8.ofNat n.toNat).toNat : Int) = n := by
      rw [UInt8.toNat_ofNat']
      have : n.toNat % 2 ^ 8 = n.toNat := Nat.mod_eq_of_lt (by omega)
      rw [this]
      omega
    show _ = V.int ((UInt8.ofNat n.toNat).toNat : Int) :: _
    rw [e]
theorem toB_len {ns : List Int} : (toB ns).length = ns.length := by simp [toB]
theorem text_toB {ns : List Int} (h : inB ns) : CoatNeutral.text? ns = some (toB ns) := by
  unfold CoatNeutral.text?
  rw [if_pos]
  · rfl
  · unfold NeutralIO.bytes
    rw [List.all_eq_true]
    intro n hn
    have := h n hn
    simp [this.1, this.2]
theorem nat_int {n : Int} (h : 0 ≤ n) : CoatNeutral.nat? n = some n.toNat := if_pos h
/-- an answer as whole numbers -/
def told (a : ShCoats.Reply) : List Int := a.ret :: ((a.nums.map fun (n : Nat) => (n : Int)) ++ a.bytes.map fun (b : UInt8) => (b.toNat : Int))
theorem due_check {ns : List Int} (h : inB ns) : PyWqaqbh.check ns = told (ShCoats.answer (.check (toB ns))) := by
  have e : CoatNeutral.callOf [[1], ns] = some (.check (toB ns)) := by
    show Option.map ShCoats.Call.check (CoatNeutral.text? ns) = _
    rw [text_toB h]
    rfl
  unfold PyWqaqbh.check CoatNeutral.f
  rw [e]
  rfl
theorem due_count {ns : List Int} (h : inB ns) : PyWqaqbh.count ns = told (ShCoats.answer (.count (toB ns))) := by
  have e : CoatNeutral.callOf [[4], ns] = some (.count (toB ns)) := by
    show Option.map ShCoats.Call.count (CoatNeutral.text? ns) = _
    rw [text_toB h]
    rfl
  unfold PyWqaqbh.count CoatNeutral.f
  rw [e]
  rfl
theorem due_words {ns : List Int} (h : inB ns) : PyWqaqbh.words ns = told (ShCoats.answer (.words (toB ns))) := by
  have e : CoatNeutral.callOf [[5], ns] = some (.words (toB ns)) := by
    show Option.map ShCoats.Call.words (CoatNeutral.text? ns) = _
    rw [text_toB h]
    rfl
  unfold PyWqaqbh.words CoatNeutral.f
  rw [e]
  rfl
theorem due_read {ns : List Int} (h : inB ns) : PyWqaqbh.read ns = told (ShCoats.answer (.read (toB ns))) := by
  have e : CoatNeutral.callOf [[6], ns] = some (.read (toB ns)) := by
    show Option.map ShCoats.Call.read (CoatNeutral.text? ns) = _
    rw [text_toB h]
    rfl
  unfold PyWqaqbh.read CoatNeutral.f
  rw [e]
  rfl
theorem due_at {p r : Int} {ns : List Int} (hp : 0 ≤ p) (hr : 0 ≤ r) (h : inB ns) : PyWqaqbh.at_ p r ns = told (ShCoats.answer (.at_ (toB ns) p.toNat r.toNat)) := by
  have e : CoatNeutral.callOf [[2, p, r], ns] = some (.at_ (toB ns) p.toNat r.toNat) := by
    show (match CoatNeutral.text? ns, CoatNeutral.nat? p, CoatNeutral.nat? r with
      | some x, some y, some z => some (ShCoats.Call.at_ x y z)
      | _, _, _ => none) = _
    rw [text_toB h, nat_int hp, nat_int hr]
  unfold PyWqaqbh.at_ CoatNeutral.f
  rw [e]
  rfl
theorem due_part {p r : Int} {ns : List Int} (hp : 0 ≤ p) (hr : 0 ≤ r) (h : inB ns) : PyWqaqbh.part p r ns = told (ShCoats.answer (.part (toB ns) p.toNat r.toNat)) := by
  have e : CoatNeutral.callOf [[3, p, r], ns] = some (.part (toB ns) p.toNat r.toNat) := by
    show (match CoatNeutral.text? ns, CoatNeutral.nat? p, CoatNeutral.nat? r with
      | some x, some y, some z => some (ShCoats.Call.part x y z)
      | _, _, _ => none) = _
    rw [text_toB h, nat_int hp, nat_int hr]
  unfold PyWqaqbh.part CoatNeutral.f
  rw [e]
  rfl
/-- what a call answers of a coat's bytes -/
theorem told_bad {bs : B} {f : Coat → ShCoats.Reply} {e : Nat} (h : readCoat bs = .error e) : told (ShCoats.ofCoat bs f) = [-1, (e : Int)] := by
  unfold ShCoats.ofCoat
  rw [h]
  rfl
theorem told_ok {bs : B} {f : Coat → ShCoats.Reply} {c : Coat} (h : readCoat bs = .ok c) : told (ShCoats.ofCoat bs f) = told (f c) := by
  unfold ShCoats.ofCoat
  rw [h]
/-- a call with one list of bytes -/
def spMain (K : PySem.W.Frag) (f : List Int → List Int) : Sp := fun vs H Q _ => ∃ (a : Addr) (ns : List Int), vs = [.ref a] ∧ inB ns ∧ ns.length ≤ 5000 ∧ SqL K H a (ns.map V.int) ∧
  ∀ p H', H' p = some (.lst ((f ns).map V.int)) → Q (.ref p) H'
/-- with a point ahead -/
def spMain3 (K : PySem.W.Frag) (f : Int → Int → List Int → List Int) : Sp := fun vs H Q _ => ∃ (p r : Nat) (a : Addr) (ns : List Int), vs = [.int (p : Int), .int (r : Int), .ref a] ∧ p < 4294967296 ∧ r < 4294967296 ∧ inB ns ∧ ns.length ≤ 5000 ∧ SqL K H a (ns.map V.int) ∧
  ∀ q H', H' q = some (.lst ((f (p : Int) (r : Int) ns).map V.int)) → Q (.ref q) H'
end Hc

/-! ### W. what is read is well made -/
namespace Hc
open Sh ShMarsh
def WfField : Field → Prop
  | .plain t => t ≤ 8
  | .parted d l a b => d ≤ 7 ∧ l ≤ 5 ∧ a ≤ 8 ∧ b ≤ 8 ∧ a ≠ b
  | .varied v n l a b => v ≤ 6 ∧ (2 ≤ n ∧ n ≤ 24) ∧ l ≤ 5 ∧ a ≤ 8 ∧ b ≤ 8 ∧ a ≠ b
def WfFill (below : Field) : Fill → Prop
  | .solid g => WfField g
  | .counter => below.two.isSome = true
def WfLayer (below : Field) : Layer → Prop
  | .ord o l f => o ≤ 12 ∧ l ≤ 5 ∧ WfFill below f
  | .group c n m s f => c ≤ 15 ∧ (1 ≤ n ∧ n ≤ 10) ∧ m ≤ 6 ∧ (1 ≤ s ∧ s ≤ 4) ∧ WfFill below f
def WfArms (a : Arms) : Prop := WfField a.field ∧ a.layers.length ≤ 8 ∧ ∀ l ∈ a.layers, WfLayer a.field l
def WfMarked (m : Marked) : Prop := WfArms m.arms ∧ (∀ a, m.canton = some a → WfArms a) ∧ m.marks.length ≤ 60 ∧ ∀ x ∈ m.marks, x.1 ≤ 127 ∧ 1 ≤ x.2 ∧ x.2 ≤ 255
mutual
def WfCoat : Coat → Prop
  | .one m => WfMarked m
  | .quarters l => 2 ≤ l.length ∧ l.length ≤ 9 ∧ WfCoats l
  | .impaled a b => WfCoat a ∧ WfCoat b
  | .pretence a b => WfCoat a ∧ WfCoat b
def WfCoats : List Coat → Prop
  | [] => True
  | c :: l => WfCoat c ∧ WfCoats l
end
theorem wf_two {p : Nat} {b : Bytes} {x : Nat × Nat} {r : Nat × Bytes} (h : Sh.twoAt p b = .ok (x, r)) : x.1 ≤ 8 ∧ x.2 ≤ 8 ∧ x.1 ≠ x.2 := by
  unfold Sh.twoAt at h
  cases h1 : numAt 0 8 ANY p b with
  | error e => rw [h1] at h; cases h
  | ok k =>
    obtain ⟨n, p1, b1⟩ := k
    rw [h1] at h
    simp only at h
    cases h2 : numAt 0 8 n p1 b1 with
    | error e => rw [h2] at h; cases h
    | ok k2 =>
      obtain ⟨m, p2, b2⟩ := k2
      rw [h2] at h
      cases h
      have i1 := num_is h1
      have i2 := num_is h2
      exact ⟨i1.2.2.1, i2.2.2.1, fun z => i2.2.2.2.1 z.symm⟩
theorem wf_field {p : Nat} {b : Bytes} {f : Field} {r : Nat × Bytes} (h : Sh.fieldAt p b = .ok (f, r)) : WfField f := by
  unfold Sh.fieldAt at h
  cases h1 : numAt 0 2 ANY p b with
  | error e => rw [h1] at h; cases h
  | ok k =>
    obtain ⟨n, p1, b1⟩ := k
    rw [h1] at h
    simp only at h
    by_cases c0 : n = 0
    · rw [if_pos c0] at h
      cases h2 : numAt 0 8 ANY p1 b1 with
      | error e => rw [h2] at h; cases h
      | ok k2 =>
        rw [h2] at h
        cases h
        exact (num_is (n := k2.1) (p' := k2.2.1) (r := k2.2.2) h2).2.2.1
    · rw [if_neg c0] at h
      by_cases c1 : n = 1
      · rw [if_pos c1] at h
        cases h2 : numAt 0 7 ANY p1 b1 with
        | error e => rw [h2] at h; cases h
        | ok k2 =>
          rw [h2] at h
          simp only at h
          cases h3 : numAt 0 5 ANY k2.2.1 k2.2.2 with
          | error e => rw [h3] at h; cases h
          | ok k3 =>
            rw [h3] at h
            simp only at h
            cases h4 : Sh.twoAt k3.2.1 k3.2.2 with
            | error e => rw [h4] at h; cases h
            | ok t =>
              rw [h4] at h
              cases h
              have w := wf_two (x := t.1) (r := t.2) h4
              exact ⟨(num_is (n := k2.1) (p' := k2.2.1) (r := k2.2.2) h2).2.2.1, (num_is (n := k3.1) (p' := k3.2.1) (r := k3.2.2) h3).2.2.1, w.1, w.2.1, w.2.2⟩
      · rw [if_neg c1] at h
        cases h2 : numAt 0 6 ANY p1 b1 with
        | error e => rw [h2] at h; cases h
        | ok k2 =>
          rw [h2] at h
          simp only at h
          cases h3 : numAt 2 24 ANY k2.2.1 k2.2.2 with
          | error e => rw [h3] at h; cases h
          | ok k3 =>
            rw [h3] at h
            simp only at h
            cases h5 : numAt 0 (if 5 ≤ k2.1 then 0 else 5) ANY k3.2.1 k3.2.2 with
            | error e => rw [h5] at h; cases h
            | ok k5 =>
              rw [h5] at h
              simp only at h
              cases h4 : Sh.twoAt k5.2.1 k5.2.2 with
              | error e => rw [h4] at h; cases h
              | ok t =>
                rw [h4] at h
                cases h
                have w := wf_two (x := t.1) (r := t.2) h4
                have i3 := num_is (n := k3.1) (p' := k3.2.1) (r := k3.2.2) h3
                have i5 := (num_is (n := k5.1) (p' := k5.2.1) (r := k5.2.2) h5).2.2.1
                refine ⟨(num_is (n := k2.1) (p' := k2.2.1) (r := k2.2.2) h2).2.2.1, ⟨i3.2.1, i3.2.2.1⟩, ?_, w.1, w.2.1, w.2.2⟩
                split at i5 <;> omega
theorem wf_fill {below : Field} {p : Nat} {b : Bytes} {f : Fill} {r : Nat × Bytes} (h : Sh.fillAt below p b = .ok (f, r)) : WfFill below f := by
  unfold Sh.fillAt at h
  cases h1 : numAt 0 (if below.two.isSome = true then 1 else 0) ANY p b with
  | error e => rw [h1] at h; cases h
  | ok k =>
    rw [h1] at h
    simp only at h
    by_cases c : k.1 = 1
    · rw [if_pos c] at h
      cases h
      have i := (num_is (n := k.1) (p' := k.2.1) (r := k.2.2) h1).2.2.1
      show below.two.isSome = true
      cases q : below.two.isSome with
      | true => rfl
      | false =>
        rw [q] at i
        simp at i
        omega
    · rw [if_neg c] at h
      cases h2 : Sh.fieldAt k.2.1 k.2.2 with
      | error e => rw [h2] at h; cases h
      | ok g =>
        rw [h2] at h
        cases h
        exact wf_field (f := g.1) (r := g.2) h2
theorem wf_layer {below : Field} {p : Nat} {b : Bytes} {l : Layer} {r : Nat × Bytes} (h : Sh.layerAt below p b = .ok (l, r)) : WfLayer below l := by
  unfold Sh.layerAt at h
  cases h1 : numAt 0 1 ANY p b with
  | error e => rw [h1] at h; cases h
  | ok k =>
    rw [h1] at h
    simp only at h
    by_cases c : k.1 = 0
    · rw [if_pos c] at h
      cases h2 : numAt 0 12 ANY k.2.1 k.2.2 with
      | error e => rw [h2] at h; cases h
      | ok o =>
        rw [h2] at h
        simp only at h
        cases h3 : numAt 0 5 ANY o.2.1 o.2.2 with
        | error e => rw [h3] at h; cases h
        | ok q =>
          rw [h3] at h
          simp only at h
          cases h4 : Sh.fillAt below q.2.1 q.2.2 with
          | error e => rw [h4] at h; cases h
          | ok f =>
            rw [h4] at h
            cases h
            exact ⟨(num_is (n := o.1) (p' := o.2.1) (r := o.2.2) h2).2.2.1, (num_is (n := q.1) (p' := q.2.1) (r := q.2.2) h3).2.2.1, wf_fill (f := f.1) (r := f.2) h4⟩
    · rw [if_neg c] at h
      cases h2 : numAt 0 15 ANY k.2.1 k.2.2 with
      | error e => rw [h2] at h; cases h
      | ok o =>
        rw [h2] at h
        simp only at h
        cases h3 : numAt 1 10 ANY o.2.1 o.2.2 with
        | error e => rw [h3] at h; cases h
        | ok q =>
          rw [h3] at h
          simp only at h
          cases h5 : numAt 0 6 ANY q.2.1 q.2.2 with
          | error e => rw [h5] at h; cases h
          | ok m =>
            rw [h5] at h
            simp only at h
            cases h6 : numAt 1 4 ANY m.2.1 m.2.2 with
            | error e => rw [h6] at h; cases h
            | ok s =>
              rw [h6] at h
              simp only at h
              cases h4 : Sh.fillAt below s.2.1 s.2.2 with
              | error e => rw [h4] at h; cases h
              | ok f =>
                rw [h4] at h
                cases h
                have i3 := num_is (n := q.1) (p' := q.2.1) (r := q.2.2) h3
                have i6 := num_is (n := s.1) (p' := s.2.1) (r := s.2.2) h6
                exact ⟨(num_is (n := o.1) (p' := o.2.1) (r := o.2.2) h2).2.2.1, ⟨i3.2.1, i3.2.2.1⟩, (num_is (n := m.1) (p' := m.2.1) (r := m.2.2) h5).2.2.1, ⟨i6.2.1, i6.2.2.1⟩, wf_fill (f := f.1) (r := f.2) h4⟩
theorem wf_layers {below : Field} : ∀ {n p : Nat} {b : Bytes} {l : List Layer} {r : Nat × Bytes}, Sh.layersFrom below n p b = .ok (l, r) → l.length = n ∧ ∀ x ∈ l, WfLayer below x
  | 0, p, b, l, r, h => by
    cases h
    exact ⟨rfl, fun x hx => by cases hx⟩
  | n + 1, p, b, l, r, h => by
    unfold Sh.layersFrom at h
    cases h1 : Sh.layerAt below p b with
    | error e => rw [h1] at h; cases h
    | ok k =>
      rw [h1] at h
      simp only at h
      cases h2 : Sh.layersFrom below n k.2.1 k.2.2 with
      | error e => rw [h2] at h; cases h
      | ok q =>
        rw [h2] at h
        cases h
        have ih := wf_layers (l := q.1) (r := q.2) h2
        refine ⟨by simp [ih.1], fun x hx => ?_⟩
        rcases List.mem_cons.mp hx with e | hx
        · rw [e]
          exact wf_layer (l := k.1) (r := k.2) h1
        · exact ih.2 x hx
theorem wf_arms {p : Nat} {b : Bytes} {a : Arms} {r : Nat × Bytes} (h : armsFrom p b = .ok (a, r)) : WfArms a := by
  unfold armsFrom at h
  cases h1 : Sh.fieldAt p b with
  | error e => rw [h1] at h; cases h
  | ok f =>
    rw [h1] at h
    simp only at h
    cases h2 : numAt 0 MOST ANY f.2.1 f.2.2 with
    | error e => rw [h2] at h; cases h
    | ok n =>
      rw [h2] at h
      simp only at h
      cases h3 : Sh.layersFrom f.1 n.1 n.2.1 n.2.2 with
      | error e => rw [h3] at h; cases h
      | ok l =>
        rw [h3] at h
        cases h
        have i := (num_is (n := n.1) (p' := n.2.1) (r := n.2.2) h2).2.2.1
        have w := wf_layers (l := l.1) (r := l.2) h3
        exact ⟨wf_field (f := f.1) (r := f.2) h1, by rw [w.1]; exact i, w.2⟩
theorem wf_marks : ∀ {n p : Nat} {b : Bytes} {l : List (Nat × Nat)} {r : Nat × Bytes}, marksFrom n p b = .ok (l, r) → l.length = n ∧ ∀ x ∈ l, x.1 ≤ 127 ∧ 1 ≤ x.2 ∧ x.2 ≤ 255
  | 0, p, b, l, r, h => by
    cases h
    exact ⟨rfl, fun x hx => by cases hx⟩
  | n + 1, p, b, l, r, h => by
    unfold marksFrom at h
    cases h1 : numAt 0 127 ANY p b with
    | error e => rw [h1] at h; cases h
    | ok g =>
      rw [h1] at h
      simp only at h
      cases h2 : numAt 1 255 ANY g.2.1 g.2.2 with
      | error e => rw [h2] at h; cases h
      | ok k =>
        rw [h2] at h
        simp only at h
        cases h3 : marksFrom n k.2.1 k.2.2 with
        | error e => rw [h3] at h; cases h
        | ok q =>
          rw [h3] at h
          cases h
          have ih := wf_marks (l := q.1) (r := q.2) h3
          refine ⟨by simp [ih.1], fun x hx => ?_⟩
          rcases List.mem_cons.mp hx with e | hx
          · rw [e]
            have i2 := num_is (n := k.1) (p' := k.2.1) (r := k.2.2) h2
            exact ⟨(num_is (n := g.1) (p' := g.2.1) (r := g.2.2) h1).2.2.1, i2.2.1, i2.2.2.1⟩
          · exact ih.2 x hx
theorem wf_marked {p : Nat} {b : Bytes} {m : Marked} {r : Nat × Bytes} (h : markedFrom p b = .ok (m, r)) : WfMarked m := by
  unfold markedFrom at h
  cases h1 : armsFrom p b with
  | error e => rw [h1] at h; cases h
  | ok a =>
    rw [h1] at h
    simp only at h
    cases h2 : numAt 0 1 ANY a.2.1 a.2.2 with
    | error e => rw [h2] at h; cases h
    | ok k =>
      rw [h2] at h
      simp only at h
      have key : ∀ (c : Option Arms) (q : Nat × Bytes), (∀ x, c = some x → WfArms x) → (match numAt 0 MARKS ANY q.1 q.2 with
          | .error e => Except.error e
          | .ok n => match marksFrom n.1 n.2.1 n.2.2 with
            | .error e => .error e
            | .ok m => .ok ((⟨a.1, c, m.1⟩ : Marked), m.2)) = .ok (m, r) → WfMarked m := by
        intro c q hc h
        cases h3 : numAt 0 MARKS ANY q.1 q.2 with
        | error e => rw [h3] at h; cases h
        | ok n =>
          rw [h3] at h
          simp only at h
          cases h4 : marksFrom n.1 n.2.1 n.2.2 with
          | error e => rw [h4] at h; cases h
          | ok ms =>
            rw [h4] at h
            cases h
            have i := (num_is (n := n.1) (p' := n.2.1) (r := n.2.2) h3).2.2.1
            have w := wf_marks (l := ms.1) (r := ms.2) h4
            exact ⟨wf_arms (a := a.1) (r := a.2) h1, hc, by rw [w.1]; exact i, w.2⟩
      by_cases c : k.1 = 0
      · rw [if_pos c] at h
        exact key none k.2 (fun x hx => by cases hx) h
      · rw [if_neg c] at h
        cases h5 : armsFrom k.2.1 k.2.2 with
        | error e => rw [h5] at h; cases h
        | ok a2 =>
          rw [h5] at h
          exact key (some a2.1) a2.2 (fun x hx => by cases hx; exact wf_arms (a := a2.1) (r := a2.2) h5) h
theorem wf_several {one : Nat → Bytes → Except Nat (Coat × Nat × Bytes)} {d : Nat} (ho : ∀ p b c r, one p b = .ok (c, r) → WfCoat c ∧ c.deep ≤ d) : ∀ {n p : Nat} {b : Bytes} {l : List Coat} {r : Nat × Bytes}, several one n p b = .ok (l, r) → l.length = n ∧ WfCoats l ∧ deepest l ≤ d
  | 0, p, b, l, r, h => by
    cases h
    exact ⟨rfl, by unfold WfCoats; trivial, by unfold deepest; omega⟩
  | n + 1, p, b, l, r, h => by
    unfold several at h
    cases h1 : one p b with
    | error e => rw [h1] at h; cases h
    | ok x =>
      rw [h1] at h
      simp only at h
      cases h2 : several one n x.2.1 x.2.2 with
      | error e => rw [h2] at h; cases h
      | ok q =>
        rw [h2] at h
        cases h
        have ih := wf_several ho (l := q.1) (r := q.2) h2
        have i := ho p b x.1 x.2 h1
        refine ⟨by simp [ih.1], ?_, ?_⟩
        · unfold WfCoats
          exact ⟨i.1, ih.2.1⟩
        · unfold deepest
          have := i.2
          have := ih.2.2
          omega
theorem wf_coatFrom : ∀ {d p : Nat} {b : Bytes} {c : Coat} {r : Nat × Bytes}, coatFrom d p b = .ok (c, r) → WfCoat c ∧ c.deep ≤ d
  | 0, p, b, c, r, h => by cases h
  | d + 1, p, b, c, r, h => by
    have ih : ∀ p b c r, coatFrom d p b = .ok (c, r) → WfCoat c ∧ c.deep ≤ d := fun p b c r h => wf_coatFrom h
    unfold coatFrom at h
    cases h1 : numAt 0 (if d = 0 then 0 else 3) ANY p b with
    | error e => rw [h1] at h; cases h
    | ok k =>
      rw [h1] at h
      simp only at h
      by_cases c0 : k.1 = 0
      · rw [if_pos c0] at h
        cases h2 : markedFrom k.2.1 k.2.2 with
        | error e => rw [h2] at h; cases h
        | ok m =>
          rw [h2] at h
          cases h
          refine ⟨?_, ?_⟩
          · unfold WfCoat
            exact wf_marked (m := m.1) (r := m.2) h2
          · unfold Coat.deep
            omega
      · rw [if_neg c0] at h
        by_cases c1 : k.1 = 1
        · rw [if_pos c1] at h
          cases h2 : numAt 2 QUARTERS ANY k.2.1 k.2.2 with
          | error e => rw [h2] at h; cases h
          | ok n =>
            rw [h2] at h
            simp only at h
            cases h3 : several (coatFrom d) n.1 n.2.1 n.2.2 with
            | error e => rw [h3] at h; cases h
            | ok l =>
              rw [h3] at h
              cases h
              have i := num_is (n := n.1) (p' := n.2.1) (r := n.2.2) h2
              have w := wf_several ih (l := l.1) (r := l.2) h3
              refine ⟨?_, ?_⟩
              · unfold WfCoat
                exact ⟨by rw [w.1]; exact i.2.1, by rw [w.1]; exact i.2.2.1, w.2.1⟩
              · unfold Coat.deep
                have := w.2.2
                omega
        · rw [if_neg c1] at h
          cases h2 : coatFrom d k.2.1 k.2.2 with
          | error e => rw [h2] at h; cases h
          | ok x =>
            rw [h2] at h
            simp only at h
            cases h3 : coatFrom d x.2.1 x.2.2 with
            | error e => rw [h3] at h; cases h
            | ok y =>
              rw [h3] at h
              have i1 := ih _ _ x.1 x.2 h2
              have i2 := ih _ _ y.1 y.2 h3
              have m1 := i1.2
              have m2 := i2.2
              by_cases c2 : k.1 = 2
              · simp only [if_pos c2] at h
                cases h
                refine ⟨?_, ?_⟩
                · unfold WfCoat
                  exact ⟨i1.1, i2.1⟩
                · unfold Coat.deep
                  omega
              · simp only [if_neg c2] at h
                cases h
                refine ⟨?_, ?_⟩
                · unfold WfCoat
                  exact ⟨i1.1, i2.1⟩
                · unfold Coat.deep
                  omega
theorem wf_read {b : Bytes} {c : Coat} (h : readCoat b = .ok c) : WfCoat c ∧ c.deep ≤ 4 := by
  unfold readCoat at h
  cases h1 : coatFrom DEEP 0 b with
  | error e => rw [h1] at h; cases h
  | ok x =>
    rw [h1] at h
    simp only at h
    by_cases e : x.2.2 = []
    · rw [if_pos e] at h
      cases h
      exact wf_coatFrom (c := x.1) (r := x.2) h1
    · rw [if_neg e] at h
      cases h
end Hc

/-! ### E. a coat as an object: its kind, its coats -/
namespace Hc
open PySem PySem.Spec PyProof.Rows L2
open Sh ShMarsh
def subs : Coat → List Coat
  | .one _ => []
  | .quarters l => l
  | .impaled a b => [a, b]
  | .pretence a b => [a, b]
def kindN : Coat → Nat
  | .one _ => 0
  | .quarters _ => 1
  | .impaled _ _ => 2
  | .pretence _ _ => 3
theorem kind_0 {c : Coat} (h : kindN c = 0) : ∃ m, c = .one m := by
  cases c with
  | one m => exact ⟨m, rfl⟩
  | quarters l => cases h
  | impaled a b => cases h
  | pretence a b => cases h
theorem coat_open {K : PySem.W.Frag} {D : Hp} {v : V} {c : Coat} (h : IsCoat K D v c) : ∃ (x dx ml cl : Addr) (av cv : V) (ms vs : List V), v = .ref x ∧ D x = some (.ins (He.ga K "Coat") dx (coaF (kindN c) av cv ml cl)) ∧ D ml = some (.lst ms) ∧ D cl = some (.lst vs) ∧ IsCoats K D vs (subs c) := by
  cases c with
  | one m =>
    unfold IsCoat at h
    obtain ⟨x, dx, ml, cl, av, cv, ms, h1, h2, h3, h4, h5, h6, h7⟩ := h
    exact ⟨x, dx, ml, cl, av, cv, ms, [], h1, h2, h5, h7, by unfold subs IsCoats; trivial⟩
  | quarters l =>
    unfold IsCoat at h
    obtain ⟨x, dx, ml, cl, vs, h1, h2, h3, h4, h5⟩ := h
    exact ⟨x, dx, ml, cl, .non, .non, [], vs, h1, h2, h3, h4, h5⟩
  | impaled a b =>
    unfold IsCoat at h
    obtain ⟨x, dx, ml, cl, va, vb, h1, h2, h3, h4, h5, h6⟩ := h
    refine ⟨x, dx, ml, cl, .non, .non, [], [va, vb], h1, h2, h3, h4, ?_⟩
    unfold subs IsCoats
    refine ⟨h5, ?_⟩
    unfold IsCoats
    exact ⟨h6, by unfold IsCoats; trivial⟩
  | pretence a b =>
    unfold IsCoat at h
    obtain ⟨x, dx, ml, cl, va, vb, h1, h2, h3, h4, h5, h6⟩ := h
    refine ⟨x, dx, ml, cl, .non, .non, [], [va, vb], h1, h2, h3, h4, ?_⟩
    unfold subs IsCoats
    refine ⟨h5, ?_⟩
    unfold IsCoats
    exact ⟨h6, by unfold IsCoats; trivial⟩
theorem IsCoats.get {K : PySem.W.Frag} {D : Hp} : ∀ {vs : List V} {ls : List Coat} {i : Nat} {v : V}, IsCoats K D vs ls → vs[i]? = some v → ∃ c, ls[i]? = some c ∧ IsCoat K D v c
  | [], [], _, _, _, e => by simp at e
  | _ :: _, c :: _, 0, v, h, e => by
    unfold IsCoats at h
    simp at e
    subst e
    exact ⟨c, rfl, h.1⟩
  | _ :: _, _ :: _, i + 1, v, h, e => by
    unfold IsCoats at h
    exact IsCoats.get (i := i) h.2 (by simpa using e)
  | [], _ :: _, _, _, h, _ => by unfold IsCoats at h; exact h.elim
  | _ :: _, [], _, _, h, _ => by unfold IsCoats at h; exact h.elim
theorem wf_subs {c : Coat} (h : WfCoat c) : WfCoats (subs c) ∧ (subs c).length ≤ 9 := by
  cases c with
  | one m => exact ⟨by unfold subs WfCoats; trivial, by simp [subs]⟩
  | quarters l =>
    unfold WfCoat at h
    exact ⟨h.2.2, h.2.1⟩
  | impaled a b =>
    unfold WfCoat at h
    refine ⟨?_, by simp [subs]⟩
    unfold subs WfCoats
    refine ⟨h.1, ?_⟩
    unfold WfCoats
    exact ⟨h.2, by unfold WfCoats; trivial⟩
  | pretence a b =>
    unfold WfCoat at h
    refine ⟨?_, by simp [subs]⟩
    unfold subs WfCoats
    refine ⟨h.1, ?_⟩
    unfold WfCoats
    exact ⟨h.2, by unfold WfCoats; trivial⟩
theorem WfCoats.get : ∀ {ls : List Coat} {i : Nat} {c : Coat}, WfCoats ls → ls[i]? = some c → WfCoat c
  | [], _, _, _, e => by simp at e
  | x :: _, 0, c, h, e => by
    unfold WfCoats at h
    simp at e
    subst e
    exact h.1
  | _ :: _, i + 1, c, h, e => by
    unfold WfCoats at h
    exact WfCoats.get (i := i) h.2 (by simpa using e)
theorem deep_get : ∀ {ls : List Coat} {i : Nat} {c : Coat}, ls[i]? = some c → c.deep ≤ deepest ls
  | [], _, _, e => by simp at e
  | x :: l, 0, c, e => by
    simp at e
    subst e
    show x.deep ≤ max x.deep (deepest l)
    omega
  | x :: l, i + 1, c, e => by
    have := deep_get (ls := l) (i := i) (by simpa using e)
    show c.deep ≤ max x.deep (deepest l)
    omega
theorem deep_subs {c : Coat} (h : kindN c ≠ 0) : c.deep = deepest (subs c) + 1 := by
  cases c with
  | one m => exact absurd rfl h
  | quarters l => unfold Coat.deep subs; rfl
  | impaled a b =>
    unfold Coat.deep subs
    show max a.deep b.deep + 1 = max a.deep (max b.deep 0) + 1
    omega
  | pretence a b =>
    unfold Coat.deep subs
    show max a.deep b.deep + 1 = max a.deep (max b.deep 0) + 1
    omega
theorem deep_pos (c : Coat) : 1 ≤ c.deep := by cases c <;> (unfold Coat.deep; omega)
theorem parts_subs {c : Coat} (h : kindN c ≠ 0) : c.parts = partsOf (subs c) := by
  cases c with
  | one m => exact absurd rfl h
  | quarters l => unfold Coat.parts subs; rfl
  | impaled a b =>
    unfold Coat.parts subs
    show a.parts + b.parts = a.parts + (b.parts + 0)
    omega
  | pretence a b =>
    unfold Coat.parts subs
    show a.parts + b.parts = a.parts + (b.parts + 0)
    omega
theorem partsOf_sum : ∀ l : List Coat, ((partsOf l : Nat) : Int) = (l.map fun c => (c.parts : Int)).sum
  | [] => rfl
  | c :: l => by
    have := partsOf_sum l
    show ((c.parts + partsOf l : Nat) : Int) = (c.parts : Int) + (l.map fun c => (c.parts : Int)).sum
    rw [← this]
    omega
theorem deepest_le {l : List Coat} {m : Int} (h : ∀ y ∈ l.map (fun c => (c.deep : Int)), y ≤ m) (hm : 0 ≤ m) : ((deepest l : Nat) : Int) ≤ m := by
  induction l with
  | nil => exact hm
  | cons c l ih =>
    have h1 := h (c.deep : Int) (by simp)
    have h2 := ih fun y hy => h y (by simp only [List.map_cons, List.mem_cons]; exact .inr hy)
    show ((max c.deep (deepest l) : Nat) : Int) ≤ m
    omega
theorem deepest_mem {l : List Coat} {m : Int} (h : m ∈ l.map fun c => (c.deep : Int)) : m ≤ ((deepest l : Nat) : Int) := by
  induction l with
  | nil => cases h
  | cons c l ih =>
    show m ≤ ((max c.deep (deepest l) : Nat) : Int)
    simp only [List.map_cons, List.mem_cons] at h
    rcases h with h | h
    · omega
    · have := ih h
      omega
theorem wf_ne {c : Coat} (h : WfCoat c) (k : kindN c ≠ 0) : subs c ≠ [] := by
  cases c with
  | one m => exact absurd rfl k
  | quarters l =>
    unfold WfCoat at h
    intro z
    have z' : l = [] := z
    rw [z'] at h
    simp at h
  | impaled a b => simp [subs]
  | pretence a b => simp [subs]
theorem take_more {α : Type} {l : List α} {i : Nat} {x : α} (h : l[i]? = some x) : l.take (i + 1) = l.take i ++ [x] := by
  rw [List.take_add_one, h]
  rfl
end Hc

/-! ### F. points of coats -/
namespace Hc
open PySem PySem.Spec PyProof.Rows L2
open Sh ShMarsh
/-- which coat of coats together a point is of, and where -/
def quartN (n p r : Nat) : Nat × Nat × Nat := (if r * side n / 576 * side n + p * side n / 480 < n then r * side n / 576 * side n + p * side n / 480 else 0, p * side n % 480, r * side n % 576)
def withinN (c : Coat) (p r : Nat) : Nat × Nat × Nat := match c with
  | .one _ => (0, p, r)
  | .quarters l => quartN l.length p r
  | .impaled _ _ => if p < 240 then (0, 2 * p, r) else (1, 2 * (p - 240), r)
  | .pretence _ _ => if 160 ≤ p ∧ p < 320 ∧ 192 ≤ r ∧ r < 384 then (1, 3 * (p - 160), 3 * (r - 192)) else (0, p, r)
theorem pick_get : ∀ {l : List Coat} {k i p r : Nat} {c : Coat}, l[k]? = some c → pick l k i p r = c.partAt (i + partsOf (l.take k)) p r
  | [], _, _, _, _, _, e => by simp at e
  | x :: l, 0, i, p, r, c, e => by
    simp at e
    subst e
    unfold pick
    rfl
  | x :: l, k + 1, i, p, r, c, e => by
    have ih := pick_get (l := l) (k := k) (i := i + x.parts) (p := p) (r := r) (c := c) (by simpa using e)
    unfold pick
    rw [if_neg (by omega), show k + 1 - 1 = k from rfl, ih]
    show c.partAt (i + x.parts + partsOf (l.take k)) p r = c.partAt (i + (x.parts + partsOf (l.take k))) p r
    rw [Nat.add_assoc]
theorem side_ge (n : Nat) : 1 ≤ side n ∧ side n ≤ 3 := by
  unfold side
  split
  · omega
  · split <;> omega
/-- one step down -/
theorem within_ok {c : Coat} {p r : Nat} (wf : WfCoat c) (hk : kindN c ≠ 0) (hp : p < 480) (hr : r < 576) :
    ∃ c', (subs c)[(withinN c p r).1]? = some c' ∧ (withinN c p r).2.1 < 480 ∧ (withinN c p r).2.2 < 576 ∧ ∀ i, c.partAt i p r = c'.partAt (i + partsOf ((subs c).take (withinN c p r).1)) (withinN c p r).2.1 (withinN c p r).2.2 := by
  cases c with
  | one m => exact absurd rfl hk
  | quarters l =>
    unfold WfCoat at wf
    have hlt : (withinN (.quarters l) p r).1 < l.length := by
      unfold withinN quartN
      simp only
      split <;> omega
    refine ⟨l[(withinN (.quarters l) p r).1], List.getElem?_eq_getElem hlt, Nat.mod_lt _ (by omega), Nat.mod_lt _ (by omega), fun i => ?_⟩
    have e := pick_get (l := l) (k := (withinN (.quarters l) p r).1) (i := i) (p := p * side l.length % 480) (r := r * side l.length % 576) (List.getElem?_eq_getElem hlt)
    have e0 : (Coat.quarters l).partAt i p r = pick l (withinN (.quarters l) p r).1 i (p * side l.length % 480) (r * side l.length % 576) := by
      rw [Coat.partAt]
      rfl
    exact e0.trans e
  | impaled a b =>
    by_cases c : p < 240
    · refine ⟨a, ?_, ?_, ?_, fun i => ?_⟩
      · simp [withinN, c, subs]
      · simp [withinN, c]; omega
      · simp [withinN, c]; exact hr
      · simp [withinN, c, subs, partsOf, Coat.partAt]
    · refine ⟨b, ?_, ?_, ?_, fun i => ?_⟩
      · simp [withinN, c, subs]
      · simp [withinN, c]; omega
      · simp [withinN, c]; exact hr
      · simp [withinN, c, subs, partsOf, Coat.partAt]
  | pretence a b =>
    by_cases c : 160 ≤ p ∧ p < 320 ∧ 192 ≤ r ∧ r < 384
    · refine ⟨b, ?_, ?_, ?_, fun i => ?_⟩
      · simp [withinN, c, subs]
      · simp [withinN, c]; omega
      · simp [withinN, c]; omega
      · simp [withinN, c, subs, partsOf, Coat.partAt]
    · refine ⟨a, ?_, ?_, ?_, fun i => ?_⟩
      · simp only [withinN]; rw [if_neg c]; rfl
      · simp only [withinN]; rw [if_neg c]; exact hp
      · simp only [withinN]; rw [if_neg c]; exact hr
      · simp only [withinN]; rw [if_neg c]
        simp only [Coat.partAt]; rw [if_neg c]
        simp [subs, partsOf]
theorem cutV_take {xs : List V} {k : Nat} : cutV xs none (some (k : Int)) = xs.take k := by
  unfold cutV
  rw [HT.sIx_none, HT.sIx_nat]
  simp
theorem IsCoats.take {K : PySem.W.Frag} {D : Hp} : ∀ {vs : List V} {ls : List Coat} (k : Nat), IsCoats K D vs ls → IsCoats K D (vs.take k) (ls.take k)
  | _, _, 0, _ => by
    rw [List.take_zero, List.take_zero]
    unfold IsCoats
    trivial
  | [], [], _ + 1, _ => by
    rw [List.take_nil, List.take_nil]
    unfold IsCoats
    trivial
  | _ :: vs, _ :: ls, k + 1, h => by
    unfold IsCoats at h
    rw [List.take_succ_cons, List.take_succ_cons]
    unfold IsCoats
    exact ⟨h.1, IsCoats.take k h.2⟩
  | [], _ :: _, _, h => by unfold IsCoats at h; exact h.elim
  | _ :: _, [], _, h => by unfold IsCoats at h; exact h.elim
theorem WfCoats.take : ∀ {ls : List Coat} (k : Nat), WfCoats ls → WfCoats (ls.take k)
  | _, 0, _ => by
    rw [List.take_zero]
    unfold WfCoats
    trivial
  | [], _ + 1, _ => by
    rw [List.take_nil]
    unfold WfCoats
    trivial
  | _ :: ls, k + 1, h => by
    unfold WfCoats at h
    rw [List.take_succ_cons]
    unfold WfCoats
    exact ⟨h.1, WfCoats.take k h.2⟩
theorem deep_take : ∀ {ls : List Coat} (k : Nat), deepest (ls.take k) ≤ deepest ls
  | _, 0 => by
    rw [List.take_zero]
    exact Nat.zero_le _
  | [], _ + 1 => by
    rw [List.take_nil]
    exact Nat.le_refl _
  | x :: ls, k + 1 => by
    have := deep_take (ls := ls) k
    rw [List.take_succ_cons]
    show max x.deep (deepest (ls.take k)) ≤ max x.deep (deepest ls)
    omega
end Hc

/-! ### V. readings that give a value and leave the heap -/
namespace Hc
open PySem PySem.Spec PyProof.Rows L2
def Vl (te : TE) (σ : L2.St) (H : Hp) (v : V) : Prop := ∀ Q : VK, Q v H → te σ H Q
def An (t : TT) (σ : L2.St) (H : Hp) (b : Bool) : Prop := ∀ Q : Bool → Hp → Prop, Q b H → t σ H Q
def VA (ta : TA) (σ : L2.St) (H : Hp) (vs : List V) : Prop := ∀ Q : List V → Hp → Prop, Q vs H → ta σ H Q
def Rt (ts : TS) (σ : L2.St) (H : Hp) (v : V) : Prop := ∀ D : Ends, D.rt v H → ts D σ H
/-- the promise of a def that gives v for vs where F says so, and leaves the heap -/
def spFun (F : List V → V → Prop) : Sp := fun vs H Q _ => ∃ v, F vs v ∧ Q v H
section
variable {σ : L2.St} {H : Hp} {ta tb tc te : TE} {t u : TT} {x y v w : V} {i j k : Int} {a b : Bool} {tr : TA} {vs : List V} {n : Nat} {ts tz : TS}
theorem v_var (h : σ[n]? = some (some v)) : Vl (tVar n) σ H v := fun _ q => ⟨v, h, q⟩
theorem v_c : Vl (tC v) σ H v := fun _ q => q
theorem v_i0 {g : Int → Int → V} (ha : Vl ta σ H (.int i)) (hb : Vl tb σ H (.int j)) : Vl (tOp (rI0 g) ta tb) σ H (g i j) := fun _ q => ha _ (hb _ ⟨i, j, rfl, rfl, q⟩)
theorem v_i {C : Int → Int → Prop} {g : Int → Int → V} (ha : Vl ta σ H (.int i)) (hb : Vl tb σ H (.int j)) (c : C i j) : Vl (tOp (rI C g) ta tb) σ H (g i j) := fun _ q => ha _ (hb _ ⟨i, j, rfl, rfl, c, q⟩)
theorem v_neg (ha : Vl ta σ H (.int i)) : Vl (tUn (rU fun i => .int (-i)) ta) σ H (.int (-i)) := fun _ q => ha _ ⟨i, rfl, q⟩
theorem v_eq (ha : Vl ta σ H (.int i)) (hb : Vl tb σ H (.int j)) : Vl (tOp rEq ta tb) σ H (.bl (decide (i = j))) := fun Q q => ha _ (hb _ ⟨rfl, by
  have e : decide (V.int i = V.int j) = decide (i = j) := by
    by_cases z : i = j
    · rw [z]; simp
    · rw [decide_eq_false z, decide_eq_false (fun y => z (by injection y))]
  rw [e]
  exact q⟩)
theorem v_ne (ha : Vl ta σ H (.int i)) (hb : Vl tb σ H (.int j)) : Vl (tOp rNe ta tb) σ H (.bl (!decide (i = j))) := fun Q q => ha _ (hb _ ⟨rfl, by
  have e : decide (V.int i = V.int j) = decide (i = j) := by
    by_cases z : i = j
    · rw [z]; simp
    · rw [decide_eq_false z, decide_eq_false (fun y => z (by injection y))]
  rw [e]
  exact q⟩)
theorem v_eqB (ha : Vl ta σ H (.bl a)) (hb : Vl tb σ H (.bl b)) : Vl (tOp rEq ta tb) σ H (.bl (a == b)) := fun Q q => ha _ (hb _ ⟨rfl, by
  have e : decide (V.bl a = V.bl b) = (a == b) := by cases a <;> cases b <;> rfl
  rw [e]
  exact q⟩)
theorem v_neB (ha : Vl ta σ H (.bl a)) (hb : Vl tb σ H (.bl b)) : Vl (tOp rNe ta tb) σ H (.bl (a != b)) := fun Q q => ha _ (hb _ ⟨rfl, by
  have e : (!decide (V.bl a = V.bl b)) = (a != b) := by cases a <;> cases b <;> rfl
  rw [e]
  exact q⟩)
theorem v_chain {g g' : Int → Int → Bool} (ha : Vl ta σ H (.int i)) (hb : Vl tb σ H (.int j)) (hc : Vl tc σ H (.int k)) : Vl (tChain (rI0 fun i j => .bl (g i j)) (rI0 fun i j => .bl (g' i j)) ta tb tc) σ H (.bl (g i j && g' j k)) := fun Q q => ha _ (hb _ ⟨i, j, rfl, rfl, _, rfl, by
  cases h : g i j with
  | true =>
    rw [h] at q
    exact hc _ ⟨j, k, rfl, rfl, q⟩
  | false =>
    rw [h] at q
    exact q⟩)
theorem v_and (ha : Vl ta σ H (.bl a)) (hb : Vl tb σ H (.bl b)) : Vl (tAndV ta tb) σ H (.bl (a && b)) := fun Q q => ha _ ⟨a, rfl, by
  cases a with
  | true => exact hb _ q
  | false => exact q⟩
theorem v_or (ha : Vl ta σ H (.bl a)) (hb : Vl tb σ H (.bl b)) : Vl (tOrV ta tb) σ H (.bl (a || b)) := fun Q q => ha _ ⟨a, rfl, by
  cases a with
  | true => exact q
  | false => exact hb _ q⟩
theorem v_not (ha : Vl ta σ H (.bl a)) : Vl (tNotV ta) σ H (.bl (!a)) := fun _ q => ha _ ⟨a, rfl, q⟩
theorem v_ifI (h : An t σ H b) (ha : Vl ta σ H (.int i)) (hb : Vl tb σ H (.int j)) : Vl (tIf t ta tb) σ H (.int (if b = true then i else j)) := fun Q q => h _ (by
  cases b with
  | true => exact ha _ q
  | false => exact hb _ q)
theorem v_ifB {c : Bool} (h : An t σ H c) (ha : Vl ta σ H (.bl a)) (hb : Vl tb σ H (.bl b)) : Vl (tIf t ta tb) σ H (.bl (if c = true then a else b)) := fun Q q => h _ (by
  cases c with
  | true => exact ha _ q
  | false => exact hb _ q)
theorem v_call {F : List V → V → Prop} {E : XK} (h : VA tr σ H vs) (hf : F (vs ++ []) v) : Vl (tCall (spFun F) [] E tr) σ H v := fun _ q => h _ ⟨v, hf, q⟩
theorem v_abs (h : VA tr σ H [.int i]) : Vl (tCB (fun xs H Q => ∃ i : Int, xs = [.int i] ∧ Q (.int (if i < 0 then -i else i)) H) tr) σ H (.int (if i < 0 then -i else i)) := fun _ q => h _ ⟨i, rfl, q⟩
theorem v_min (h : VA tr σ H [.int i, .int j]) : Vl (tCB (fun xs H Q => ∃ i j : Int, xs = [.int i, .int j] ∧ Q (.int (if j < i then j else i)) H) tr) σ H (.int (if j < i then j else i)) := fun _ q => h _ ⟨i, j, rfl, q⟩
theorem va_nil : VA tNil σ H [] := fun _ q => q
theorem va_cons (h : Vl te σ H v) (hr : VA tr σ H vs) : VA (tCons te tr) σ H (v :: vs) := fun _ q => h _ (hr _ q)
theorem a_test (h : Vl te σ H (.bl b)) : An (tTest te) σ H b := fun _ q => h _ ⟨b, rfl, q⟩
theorem a_B (h : Vl te σ H (.bl b)) : An (tB te) σ H b := fun _ q => h _ ⟨b, rfl, q⟩
theorem a_and (h1 : An t σ H a) (h2 : An u σ H b) : An (tAnd t u) σ H (a && b) := fun Q q => h1 _ (by
  cases a with
  | true => exact h2 _ q
  | false => exact q)
theorem a_or (h1 : An t σ H a) (h2 : An u σ H b) : An (tOr t u) σ H (a || b) := fun Q q => h1 _ (by
  cases a with
  | true => exact q
  | false => exact h2 _ q)
theorem a_not (h : An t σ H a) : An (tNot t) σ H (!a) := fun _ q => h _ q
theorem An.go {D : Ends} {t1 t2 t3 : TS} (h : An t σ H b) (k : if b = true then t1 { D with nx := t3 D } σ H else t2 { D with nx := t3 D } σ H) : tSeq (tIfS t t1 t2) t3 D σ H := h _ k
theorem r_ret (h : Vl te σ H v) : Rt (tRet te) σ H v := fun _ q => h _ q
theorem r_ifI (h : An t σ H b) (h1 : b = true → Rt ts σ H (.int i)) (h2 : b = false → Rt tz σ H (.int j)) : Rt (tSeq (tIfS t ts tNext) tz) σ H (.int (if b = true then i else j)) := fun D q => h _ (by
  cases b with
  | true => exact h1 rfl _ q
  | false => exact h2 rfl _ q)
theorem r_ifB {c : Bool} (h : An t σ H c) (h1 : c = true → Rt ts σ H (.bl a)) (h2 : c = false → Rt tz σ H (.bl b)) : Rt (tSeq (tIfS t ts tNext) tz) σ H (.bl (if c = true then a else b)) := fun D q => h _ (by
  cases c with
  | true => exact h1 rfl _ q
  | false => exact h2 rfl _ q)
theorem r_set (h : Vl te σ H v) (h2 : Rt tz (σ.set n (some v)) H w) : Rt (tSeq (tAsg te (gName n)) tz) σ H w := fun D q => h _ (h2 D q)
theorem a_when {D : Ends} {t1 t3 : TS} (h : An t σ H b) (h1 : b = true → t1 { D with nx := t3 D } σ H) (h2 : b = false → t3 D σ H) : tSeq (tIfS t t1 tNext) t3 D σ H := h _ (by
  cases b with
  | true => exact h1 rfl
  | false => exact h2 rfl)
theorem rt_I {D : Ends} (h : Rt ts σ H (.int i)) (e : i = j) (k : D.rt (.int j) H) : ts D σ H := h D (e ▸ k)
theorem rt_B {D : Ends} (h : Rt ts σ H (.bl a)) (e : a = b) (k : D.rt (.bl b) H) : ts D σ H := h D (e ▸ k)
end
end Hc

-- EXTRA KE.GoesEnum KE.GoesMore KE.DataMinMax KE.DatumOrd HandS.Walk
/-! ### G. tuples of tuples at the top, enumerate over a tuple, a tuple's greatest -/
namespace Hc
open PySem PySem.Spec PyProof.Rows L2
def rowAt (K : PySem.W.Frag) (x : Str) (i : Nat) : Addr := match K.lookup (He.ga K x) with
  | some ⟨_, _, .seq its _, _⟩ => (match its[i]? with
    | some (.ref a) => a
    | _ => 0)
  | _ => 0
def tupAtB (K : PySem.W.Frag) (a : Addr) (vs : List V) : Bool := match K.lookup a with
  | some ⟨.type c, _, .seq its _, _⟩ => decide (c = "tuple") && (decide (its.size ≤ sizeLine) && He.relAll vs its.toList)
  | _ => false
theorem tupAtB_ok {K : PySem.W.Frag} {a : Addr} {vs : List V} (h : tupAtB K a vs = true) (H : Hp) : SqT K H a vs := by
  unfold tupAtB at h
  cases q : K.lookup a with
  | none =>
    rw [q] at h
    cases h
  | some o =>
    obtain ⟨oc, od, dt, osl⟩ := o
    rw [q] at h
    cases oc with
    | type c =>
      cases dt with
      | seq its n =>
        obtain ⟨h1, h2⟩ := He.ba (show (decide (c = "tuple") && (decide (its.size ≤ sizeLine) && He.relAll vs its.toList)) = true from h)
        obtain ⟨h3, h4⟩ := He.ba h2
        exact .inr ⟨_, its, n, q, congrArg Value.type (of_decide_eq_true h1), rfl, of_decide_eq_true h3, He.relAll_ok h4⟩
      | _ => cases h
    | _ => cases dt <;> cases h
def rowAs (K : PySem.W.Frag) (x : Str) (n : Nat) : List Addr := (List.range n).map (rowAt K x)
def tup2B (K : PySem.W.Frag) (x : Str) (rows : List (List Int)) : Bool := tupAtB K (He.ga K x) ((rowAs K x rows.length).map V.ref) && (rows.zipIdx.all fun r => tupAtB K (rowAt K x r.2) (r.1.map V.int))
/-- a tuple of tuples of numbers -/
def Rows (K : PySem.W.Frag) (_ : Hp) (a : Addr) (rows : List (List Int)) : Prop := ∃ as : List Addr, as.length = rows.length ∧ (∀ H : Hp, SqT K H a (as.map V.ref)) ∧ ∀ (i : Nat) (r : List Int), rows[i]? = some r → ∃ b, as[i]? = some b ∧ ∀ H : Hp, SqT K H b (r.map V.int)
theorem tup2B_ok {K : PySem.W.Frag} {x : Str} {rows : List (List Int)} (h : tup2B K x rows = true) (H : Hp) : Rows K H (He.ga K x) rows := by
  obtain ⟨h1, h2⟩ := He.ba h
  refine ⟨rowAs K x rows.length, by simp [rowAs], tupAtB_ok h1, fun i r hi => ⟨rowAt K x i, ?_, ?_⟩⟩
  · have il : i < rows.length := (List.getElem?_eq_some_iff.mp hi).1
    simp [rowAs, il]
  · have z := List.all_eq_true.mp h2 (r, i) (by rw [List.mem_iff_getElem?]; exact ⟨i, by simp [hi]⟩)
    exact tupAtB_ok z
/-- the tuple at a, each item in a new pair -/
def IteT (K : PySem.W.Frag) (a : Addr) : It :=
  ⟨fun i H => ∃ (xs : List V) (x : V), SqT K H a xs ∧ xs[i]? = some x, fun i H v H' => ∃ T x, v = .ref T ∧ H T = none ∧ H' = upd H T (.tup [.int (i : Nat), x]) ∧ ∀ xs, SqT K H a xs → xs[i]? = some x, fun i H => ∃ xs : List V, SqT K H a xs ∧ xs.length ≤ i⟩
open PySem.Sem (wp) in
set_option maxHeartbeats 4000000 in
theorem meets_enum1 {v : Value} {o : Obj} {H : Heap → Prop} (B : Begins v o H) :
    Meets (Builtin.«enumerate.__new__» ⟨[.type "enumerate", v], []⟩) (fun _ R s => H s.heap ∧
      R (.ok (.ret (.ref (s.heap.push o).objs.size))) { s with heap := (s.heap.push o).push { cls := .type "enumerate", data := .fields #[.none, .bool false, .ref s.heap.objs.size, rawInt 0, .none, .none] } }) :=
  .of_wp fun prog w A R s h => by
    obtain ⟨hp, g, d, tk, os⟩ := s
    obtain ⟨h1, h⟩ := h
    have hsub := sub_enumerate
    have q1 : ∀ {A' : Around} {E : Value → Shared → Prop} {Q : Value → Shared → Prop}, Q (.ref hp.objs.size) ⟨hp.push o, g, d, tk, os⟩ → wpAny (model prog w) A' (pyIter v) Q E ⟨hp, g, d, tk, os⟩ :=
      fun q => B.iter prog w _ _ ⟨hp, g, d, tk, os⟩ _ h1 q
    wp_walk using q1
    refine wpAny_stack_any fun st => wpAny_pure ?_
    split
    · rename_i c _ _ _ _ _
      cases (c == Value.type "enumerate")
      · wp_walk using q1
        exact ⟨_, rfl, h⟩
      · wp_walk using q1
        exact ⟨_, rfl, h⟩
    · wp_walk using q1
      exact ⟨_, rfl, h⟩
theorem call_enum1 {prog : Program} {w : World} {A : Around} {E : Value → Shared → Prop} {s : Shared} {v : Value} {o : Obj} {H : Heap → Prop} {Q : Value → Shared → Prop} (B : Begins v o H) (h1 : H s.heap)
    (h : ∀ h', IsEnum h' (s.heap.objs.size + 1) s.heap.objs.size 0 .none → h'.get? s.heap.objs.size = some o →
      (∀ b o, s.heap.get? b = some o → h'.get? b = some o) → Q (.ref (s.heap.objs.size + 1)) { s with heap := h' }) :
    wpAny (model prog w) A (call (.type "enumerate") [v]) Q E s := by
  refine callType_new F.called_enumerate (by decide) (F.typeCall_enumerate_1 _) (F.newCall_enumerate_1 _) (fun obj => F.args_object_init_2 obj _) F.entry_enumerate_new (meets_enum1 B) ⟨h1, ?_⟩
  have hz : (s.heap.push o).objs.size = s.heap.objs.size + 1 := Heap.size_push ..
  show _ ∧ _
  rw [hz]
  have he : IsEnum ((s.heap.push o).push { cls := .type "enumerate", data := .fields #[.none, .bool false, .ref s.heap.objs.size, rawInt 0, .none, .none] }) (s.heap.objs.size + 1) s.heap.objs.size 0 .none := by
    have := Heap.get?_push_size (s.heap.push o) (o := { cls := .type "enumerate", data := .fields #[.none, .bool false, .ref s.heap.objs.size, rawInt 0, .none, .none] }) rfl
    rw [hz] at this
    exact this
  exact ⟨⟨_, he, rfl⟩, h _ he (Heap.get?_push_of_some _ (Heap.get?_push_size _ B.free)) fun b o x => Heap.get?_push_of_some _ (Heap.get?_push_of_some _ x)⟩
theorem turn_enumT {P : Program} {w : World} {K : PySem.W.Frag} {elts : List Expr} {kk : Nat} {tpos : Pos} (a e it : Addr) :
    Turn P w K (.Tuple elts kk tpos) (IteT K a) [e, it] e (fun i h => (∃ old, IsEnum h e it ((i : Nat) : Int) old) ∧ h.IsTupleIter it a i ∧ e ≠ it ∧ a ≠ it ∧ a ≠ e) where
  mem := by simp
  obj := fun i h st b hb => by
    obtain ⟨⟨old, he⟩, ⟨o, ho, hc, hd⟩, _⟩ := st
    have e' : b = e ∨ b = it := by simpa using hb
    rcases e' with z | z
    · rw [z]; exact ⟨_, he, fun v q => nomatch q⟩
    · rw [z]; exact ⟨o, ho, fun v q => by rw [hd] at q; cases q⟩
  keep := fun i h h' st k => let ⟨⟨old, he⟩, hi, hne⟩ := st; ⟨⟨old, k e (by simp) _ he⟩, hi.at fun o q => k it (by simp) o q, hne⟩
  item := by
    intro X hP hw hK hc i pins s σ H E I hf st hg
    subst hP hw hK
    obtain ⟨⟨old, he⟩, hit, hne, hai, hae⟩ := st
    obtain ⟨xs, x, hq, hx⟩ := hg
    obtain ⟨its, rv, p, hz⟩ := I.tuple hq
    obtain ⟨u, hu, ru⟩ := rv.get hx
    have hel : e < s.heap.objs.size := Heap.lt_size he
    have hil : it < s.heap.objs.size := by obtain ⟨_, q, _⟩ := hit; exact Heap.lt_size q
    have hlt : i < its.toArray.size := by
      have := (List.getElem?_eq_some_iff.mp hu).1
      simpa using this
    have p' : s.heap.IsTuple a its.toArray := p
    refine wpAny_pyNext_enum_itemD (Draws.tuple (prog := X.prog) (w := X.w) (A := X.A.in1) (I.ok.hd hc) it a hai its.toArray) he ⟨hit, p'⟩ hlt hne (by simp [hne, hae.symm]) fun x' h' tk hx' ho hst' hT hsz hk => ?_
    obtain ⟨hit', _⟩ := hst'
    have ex : x' = u := by
      have z : its[i]? = some x' := by simpa using hx'
      rw [hu] at z
      exact (Option.some.inj z).symm
    subst ex
    refine ⟨_, rfl, wpAny_letOwnedTupleGo_enum (s := { s with heap := h', toks := tk + 1 }) ho fun h'' he' sb => ?_⟩
    have hT2 : h''.get? s.heap.objs.size = some { cls := .type "tuple", data := .seq #[.int i tk, x'] } := (sb.2 _ (Nat.ne_of_gt hel)).trans hT
    have new : ObjOk X.prog X.w (upd H s.heap.objs.size (.tup [.int (i : Nat), x])) h'' s.heap.objs.size (.tup [.int (i : Nat), x]) :=
      ⟨by show 2 ≤ sizeLine; decide, [.int i tk, x'], .cons ⟨_, rfl⟩ (.cons ru .nil), ⟨_, hT2, rfl, _, rfl⟩⟩
    have I1 : Inv X pins σ (upd H s.heap.objs.size (.tup [.int (i : Nat), x])) { s with heap := h'', toks := tk + 1 } :=
      I.turnedNew (ch := [e, it]) (fun b ob hb q => (sb.2 b (fun z => hb (by simp [z]))).trans (hk b ob (fun z => hb (by simp [z])) (fun z => hb (by simp [z])) q)) hf (Nat.le_refl _) new
    refine ⟨.ref s.heap.objs.size, _, I1, rfl, ⟨_, x, rfl, I.hok.fresh (Nat.le_refl _), rfl, fun ys hy => by rw [I.tuple_inj hy hq]; exact hx⟩, ⟨⟨x', ?_⟩, hit'.at fun o q => (sb.2 it (Ne.symm hne)).trans q, hne, hai, hae⟩, fun b hb => ?_⟩
    · have e1 : ((i + 1 : Nat) : Int) = (i : Int) + 1 := by omega
      rw [e1]; exact he'
    · have hb' : b < s.heap.objs.size := by
        have e' : b = e ∨ b = it := by simpa using hb
        rcases e' with z | z
        · rw [z]; exact hel
        · rw [z]; exact hil
      rw [upd_ne (Nat.ne_of_lt hb')]
      exact (hf b hb).1
  done := by
    intro X hP hw hK hc i pins s σ H E I hf st hg
    subst hP hw hK
    obtain ⟨⟨old, he⟩, hit, hne, hai, hae⟩ := st
    obtain ⟨xs, hq, hx⟩ := hg
    obtain ⟨its, rv, p, hz⟩ := I.tuple hq
    obtain ⟨f0, f1, f2, f3, f4, f5⟩ := hf it (by simp)
    have hl := rv.length
    have p' : s.heap.IsTuple a its.toArray := p
    have D : Draws X.prog X.w X.A.in1 it [it, a] i (fun _ _ => False) (fun j h => j = i ∧ h.IsTupleIter it a i ∧ h.IsTuple a its.toArray) := {
      live := fun _ _ st => let ⟨o, ho, _⟩ := st.2.1; ⟨o, ho⟩
      frame := fun _ _ _ st hk => ⟨st.1, st.2.1.at fun o e => hk it (by simp) o e, st.2.2.at fun o e => hk a (by simp) o e⟩
      item := fun j s Q E hj st _ => absurd hj (by rw [st.1]; exact Nat.lt_irrefl i)
      done := fun s Q E st hE => wpAny_nextOf_tuple_end (I.ok.hd hc) st.2.1 st.2.2 (by simp; omega) hE }
    exact wpAny_pyNext_enum_endD D he ⟨rfl, hit, p'⟩ fun h' eb => ⟨rfl, I.turned (t' := s.toks) (fun b o hb q => eb b o hb q) f0 f1 f3 f4 f5⟩
  self := fun A i s Q E st h => let ⟨⟨_, he⟩, _⟩ := st; wpAny_pyIter_enum he h
def iEnumT (K : PySem.W.Frag) (ta : TA) : TI := fun σ H R => ta σ H fun vs H1 => ∃ a xs, vs = [.ref a] ∧ SqT K H1 a xs ∧ R (IteT K a) H1
theorem pi_enumT {X : Cx} {e : Expr} {ta : TA} {p pos tpos : Pos} {elts : List Expr} {kk : Nat} (hm : X.mg "enumerate" = none) (hg : Gl X "enumerate") (ha : PA X [e] ta) (hs : starEach [e] X.env = [(false, eval e X.env)] := by rfl) :
    PI X (.Tuple elts kk tpos) (.Call (.Name "enumerate" p) [e] [] pos) (iEnumT X.K ta) := by
  refine ⟨fun pins s σ H R I h => ?_⟩
  refine Call_ (ld_blt I hg hm boot_enumerate (PyProof.Rows.callWith_type1 (thn (ha.run pos pins s σ H _ I h) fun us s1 ⟨vs, H1, I1, r1, q1⟩ => ?_) hs rfl))
  obtain ⟨a, xs, ex, hq, q⟩ := q1
  subst ex
  cases r1 with
  | cons r rr =>
    cases rr
    cases r
    obtain ⟨its, rv, p', hz⟩ := I1.tuple hq
    have p2 : s1.heap.IsTuple a its.toArray := p'
    have hal : a < s1.heap.objs.size := by obtain ⟨_, q, _⟩ := p2; exact Heap.lt_size q
    refine call_enum1 (begins_tuple a its.toArray) p2 fun h' he hit hk => wpAny_pyIter_enum he ?_
    have I2 : Inv X pins σ H1 { s1 with heap := h' } := I1.kept (t' := s1.toks) hk
    refine ⟨s1.heap.objs.size + 1, [s1.heap.objs.size + 1, s1.heap.objs.size], _, _, H1, rfl, I2, turn_enumT a (s1.heap.objs.size + 1) s1.heap.objs.size, ⟨⟨.none, he⟩, ⟨_, hit, rfl, rfl⟩, Nat.succ_ne_self _, Nat.ne_of_lt hal, Nat.ne_of_lt (Nat.lt_succ_of_lt hal)⟩, fun b hb => ?_, q⟩
    have e' : b = s1.heap.objs.size + 1 ∨ b = s1.heap.objs.size := by simpa using hb
    have hle : s1.heap.objs.size ≤ b := by
      rcases e' with z | z
      · rw [z]; exact Nat.le_add_right _ _
      · rw [z]; exact Nat.le_refl _
    exact I1.fpOk hle (I1.hok.fresh hle)
theorem walk_enumT {K : PySem.W.Frag} {a : Addr} {xs : List V} : Walk (IteT K a) xs.length (fun H => SqT K H a xs) (YPair (fun i => some (.int (i : Nat))) (fun i => xs[i]?)) := by
  refine ⟨fun i _ hi q => ⟨xs, xs[i], q, by simp [hi]⟩, fun _ q => ⟨xs, q, Nat.le_refl _⟩, fun i H v H' _ q y => ?_⟩
  obtain ⟨T, x, h1, h2, h3, h4⟩ := y
  exact ⟨T, .int (i : Nat), x, h1, h2, h3, rfl, h4 xs q⟩
/-! a tuple's greatest -/
theorem ints_read {h : Heap} : ∀ {ns : List Int} {us : List Value}, Vals (ns.map V.int) us → ∃ as, ReadsAll h us (ns.map PyData.int) as
  | [], us, r => by
    cases r
    exact ⟨_, .nil⟩
  | n :: ns, us, r => by
    cases r with
    | cons r1 r2 =>
      obtain ⟨t, rfl⟩ := r1
      obtain ⟨as, q⟩ := ints_read r2
      exact ⟨_, .cons (.int n t) q⟩
theorem fold_max : ∀ (l : List Int) (a : Int), l.foldl max a ∈ a :: l ∧ ∀ y, y ∈ a :: l → y ≤ l.foldl max a
  | [], a => ⟨by simp, by simp⟩
  | b :: l, a => by
    obtain ⟨h1, h2⟩ := fold_max l (max a b)
    rw [List.foldl_cons]
    refine ⟨?_, fun y hy => ?_⟩
    · rcases List.mem_cons.mp h1 with e | e
      · rw [e]
        rcases Int.le_total a b with z | z
        · rw [Int.max_eq_right z]; simp
        · rw [Int.max_eq_left z]; simp
      · simp [e]
    · have z := h2 (max a b) (by simp)
      rcases List.mem_cons.mp hy with e | e
      · subst e; omega
      · rcases List.mem_cons.mp e with e2 | e2
        · subst e2; omega
        · exact h2 y (by simp [e2])
theorem ints_max (l : List Int) (a : Int) : ∃ m, PySem.W.maxD (.int a) (l.map PyData.int) = .int m ∧ m ∈ a :: l ∧ ∀ y, y ∈ a :: l → y ≤ m :=
  ⟨_, PySem.W.maxD_ints a l, (fold_max l a).1, (fold_max l a).2⟩
theorem cr_maxT {X : Cx} (hc : X.calm = true) (hu : X.A.units + 64 < cLine) : CallR X (.builtin "max") (fun vs H Q => ∃ (a : Addr) (ns : List Int), vs = [V.ref a] ∧ SqT X.K H a (ns.map V.int) ∧ 0 < ns.length ∧ ∀ m, m ∈ ns → (∀ y, y ∈ ns → y ≤ m) → Q (.int m) H) := by
  intro pins s σ H vs us Q I r h
  obtain ⟨a, ns, rfl, hs, hne, q⟩ := h
  obtain ⟨its, rv, hl, _⟩ := I.tuple hs
  rw [Vals.ref1 r]
  cases ns with
  | nil => cases hne
  | cons n ns =>
    obtain ⟨as, hr⟩ := ints_read (h := s.heap) rv
    have hl' : s.heap.IsTuple a its.toArray := hl
    obtain ⟨m, em, h1, h2⟩ := ints_max ns n
    refine PySem.W.max_tuple_data (I.ok.hd hc) hl' (x := .int n) (xs := ns.map PyData.int) (by simpa using hr) ?_ ?_ fun i v h' tk bs hv hread hk => ?_
    · exact PySem.W.alikeAll_datum (α := Int) (n :: ns)
    · have z : PyData.depthAll ((n :: ns).map (PySem.W.Datum.toD (α := Int))) ≤ PySem.W.Datum.depth Int := PySem.W.depthAll_map (n :: ns)
      have z2 : PySem.W.Datum.depth Int ≤ 2 := by decide
      have z3 : PyData.depthAll (PyData.int n :: List.map PyData.int ns) ≤ 2 := Nat.le_trans z z2
      exact Nat.lt_of_le_of_lt (by omega) hu
    · rw [em] at hread
      cases hread
      exact ⟨.int m, H, I.kept hk, ⟨_, rfl⟩, q m h1 h2⟩
/-! in a comprehension: the frozen fragment named from outside -/
theorem pe_makK {X : Cx} {K : PySem.W.Frag} {k : Nat} {x : Str} {ps : List Str} {sp : Sp} {e : Expr} {es : List Expr} {t : TA} {p pos : Pos} (U : Mak X.prog X.w X.K X.mg X.base k x ps sp) (hr : Room (k + 1) X.A) (hK : X.K = K) (ha : PA X (e :: es) t) (hg : Gl X x := by rfl) (hdb : (x == ("__debug__" : Str)) = false := by decide)
    (he : starEach (e :: es) X.env = (false, eval e X.env) :: starEach es X.env := by rfl) (hpl : (backTo pos (starEach es X.env)).any (·.1) = false := by rfl) : PE X (.Call (.Name x p) (e :: es) [] pos) (tMake (He.ga K x) sp [] E0 t) := by
  subst hK
  exact pe_mak U hr ha hg hdb he hpl
theorem call_len_K {X : Cx} {K : PySem.W.Frag} (hK : X.K = K) : CallR X (.builtin "len") (fun xs H Q => ∃ p ys, xs = [.ref p] ∧ (SqL K H p ys ∨ SqT K H p ys) ∧ Q (.int ys.length) H) := by
  subst hK
  exact call_len_seq
end Hc

/-! ### T. the text by places, what the top has written -/
namespace Hc
open PySem PySem.Spec PyProof.Rows L2
def top (i : Nat) : Stmt := PySem.Challenge.pw_heraldcoats_s02_at.main.body.getD i (.Pass ⟨0, 0, 0, 0⟩)
abbrev s_off : Stmt := top 3
abbrev n_off : List Str := ["line", "t", "u", "w"]
abbrev p_off : List Str := ["line", "t"]
theorem sc_off : FnScope n_off p_off (defScope s_off) := ⟨rfl, rfl, rfl, by decide +kernel, rfl, by decide +kernel, by decide +kernel⟩

abbrev s_bend_of : Stmt := top 4
abbrev n_bend_of : List Str := ["p", "r"]
abbrev p_bend_of : List Str := ["p", "r"]
theorem sc_bend_of : FnScope n_bend_of p_bend_of (defScope s_bend_of) := ⟨rfl, rfl, rfl, by decide +kernel, rfl, by decide +kernel, by decide +kernel⟩

abbrev s_other_side : Stmt := top 5
abbrev n_other_side : List Str := ["p"]
abbrev p_other_side : List Str := ["p"]
theorem sc_other_side : FnScope n_other_side p_other_side (defScope s_other_side) := ⟨rfl, rfl, rfl, by decide +kernel, rfl, by decide +kernel, by decide +kernel⟩

abbrev s_bend_off : Stmt := top 6
abbrev n_bend_off : List Str := ["line", "p", "r"]
abbrev p_bend_off : List Str := ["line", "p", "r"]
theorem sc_bend_off : FnScope n_bend_off p_bend_off (defScope s_bend_off) := ⟨rfl, rfl, rfl, by decide +kernel, rfl, by decide +kernel, by decide +kernel⟩

abbrev s_is_above_bend : Stmt := top 7
abbrev n_is_above_bend : List Str := ["line", "p", "r"]
abbrev p_is_above_bend : List Str := ["line", "p", "r"]
theorem sc_is_above_bend : FnScope n_is_above_bend p_is_above_bend (defScope s_is_above_bend) := ⟨rfl, rfl, rfl, by decide +kernel, rfl, by decide +kernel, by decide +kernel⟩

abbrev s_is_parted : Stmt := top 8
abbrev n_is_parted : List Str := ["way", "line", "p", "r"]
abbrev p_is_parted : List Str := ["way", "line", "p", "r"]
theorem sc_is_parted : FnScope n_is_parted p_is_parted (defScope s_is_parted) := ⟨rfl, rfl, rfl, by decide +kernel, rfl, by decide +kernel, by decide +kernel⟩

abbrev s_bendy_number : Stmt := top 9
abbrev n_bendy_number : List Str := ["n", "line", "p", "r"]
abbrev p_bendy_number : List Str := ["n", "line", "p", "r"]
theorem sc_bendy_number : FnScope n_bendy_number p_bendy_number (defScope s_bendy_number) := ⟨rfl, rfl, rfl, by decide +kernel, rfl, by decide +kernel, by decide +kernel⟩

abbrev s_piece_number : Stmt := top 10
abbrev n_piece_number : List Str := ["way", "n", "line", "p", "r"]
abbrev p_piece_number : List Str := ["way", "n", "line", "p", "r"]
theorem sc_piece_number : FnScope n_piece_number p_piece_number (defScope s_piece_number) := ⟨rfl, rfl, rfl, by decide +kernel, rfl, by decide +kernel, by decide +kernel⟩

abbrev s_is_near_bend : Stmt := top 11
abbrev n_is_near_bend : List Str := ["line", "p", "r", "most"]
abbrev p_is_near_bend : List Str := ["line", "p", "r", "most"]
theorem sc_is_near_bend : FnScope n_is_near_bend p_is_near_bend (defScope s_is_near_bend) := ⟨rfl, rfl, rfl, by decide +kernel, rfl, by decide +kernel, by decide +kernel⟩

abbrev s_is_on_edge : Stmt := top 12
abbrev n_is_on_edge : List Str := ["line", "p", "r"]
abbrev p_is_on_edge : List Str := ["line", "p", "r"]
theorem sc_is_on_edge : FnScope n_is_on_edge p_is_on_edge (defScope s_is_on_edge) := ⟨rfl, rfl, rfl, by decide +kernel, rfl, by decide +kernel, by decide +kernel⟩

abbrev s_is_on_straight : Stmt := top 13
abbrev n_is_on_straight : List Str := ["which", "line", "p", "r"]
abbrev p_is_on_straight : List Str := ["which", "line", "p", "r"]
theorem sc_is_on_straight : FnScope n_is_on_straight p_is_on_straight (defScope s_is_on_straight) := ⟨rfl, rfl, rfl, by decide +kernel, rfl, by decide +kernel, by decide +kernel⟩

abbrev s_has_ordinary : Stmt := top 14
abbrev n_has_ordinary : List Str := ["which", "line", "p", "r"]
abbrev p_has_ordinary : List Str := ["which", "line", "p", "r"]
theorem sc_has_ordinary : FnScope n_has_ordinary p_has_ordinary (defScope s_has_ordinary) := ⟨rfl, rfl, rfl, by decide +kernel, rfl, by decide +kernel, by decide +kernel⟩

abbrev s_Middle_init : Stmt := inClass (top 18) 0
abbrev n_Middle_init : List Str := ["self", "m", "n", "half"]
abbrev p_Middle_init : List Str := ["self", "m", "n", "half"]
theorem sc_Middle_init : FnScope n_Middle_init p_Middle_init (defScope s_Middle_init) := ⟨rfl, rfl, rfl, by decide +kernel, rfl, by decide +kernel, by decide +kernel⟩

abbrev s_is_round : Stmt := top 19
abbrev n_is_round : List Str := ["which", "x", "y", "d", "slanted"]
abbrev p_is_round : List Str := ["which", "x", "y"]
theorem sc_is_round : FnScope n_is_round p_is_round (defScope s_is_round) := ⟨rfl, rfl, rfl, by decide +kernel, rfl, by decide +kernel, by decide +kernel⟩

abbrev s_is_mullet : Stmt := top 20
abbrev n_is_mullet : List Str := ["x", "y"]
abbrev p_is_mullet : List Str := ["x", "y"]
theorem sc_is_mullet : FnScope n_is_mullet p_is_mullet (defScope s_is_mullet) := ⟨rfl, rfl, rfl, by decide +kernel, rfl, by decide +kernel, by decide +kernel⟩

abbrev s_is_crossed : Stmt := top 21
abbrev n_is_crossed : List Str := ["which", "x", "y", "d"]
abbrev p_is_crossed : List Str := ["which", "x", "y"]
theorem sc_is_crossed : FnScope n_is_crossed p_is_crossed (defScope s_is_crossed) := ⟨rfl, rfl, rfl, by decide +kernel, rfl, by decide +kernel, by decide +kernel⟩

abbrev s_is_tower : Stmt := top 22
abbrev n_is_tower : List Str := ["x", "y"]
abbrev p_is_tower : List Str := ["x", "y"]
theorem sc_is_tower : FnScope n_is_tower p_is_tower (defScope s_is_tower) := ⟨rfl, rfl, rfl, by decide +kernel, rfl, by decide +kernel, by decide +kernel⟩

abbrev s_is_wheel : Stmt := top 23
abbrev n_is_wheel : List Str := ["x", "y", "d"]
abbrev p_is_wheel : List Str := ["x", "y"]
theorem sc_is_wheel : FnScope n_is_wheel p_is_wheel (defScope s_is_wheel) := ⟨rfl, rfl, rfl, by decide +kernel, rfl, by decide +kernel, by decide +kernel⟩

abbrev s_is_arrow : Stmt := top 24
abbrev n_is_arrow : List Str := ["x", "y"]
abbrev p_is_arrow : List Str := ["x", "y"]
theorem sc_is_arrow : FnScope n_is_arrow p_is_arrow (defScope s_is_arrow) := ⟨rfl, rfl, rfl, by decide +kernel, rfl, by decide +kernel, by decide +kernel⟩

abbrev s_has_charge : Stmt := top 25
abbrev n_has_charge : List Str := ["which", "x", "y"]
abbrev p_has_charge : List Str := ["which", "x", "y"]
theorem sc_has_charge : FnScope n_has_charge p_has_charge (defScope s_has_charge) := ⟨rfl, rfl, rfl, by decide +kernel, rfl, by decide +kernel, by decide +kernel⟩

abbrev s_part_of : Stmt := top 26
abbrev n_part_of : List Str := ["whole", "k", "many"]
abbrev p_part_of : List Str := ["whole", "k", "many"]
theorem sc_part_of : FnScope n_part_of p_part_of (defScope s_part_of) := ⟨rfl, rfl, rfl, by decide +kernel, rfl, by decide +kernel, by decide +kernel⟩

abbrev s_in_rows : Stmt := top 27
abbrev n_in_rows : List Str := ["many", "size", "rows", "half", "found", "i", "row", "j"]
abbrev p_in_rows : List Str := ["many", "size"]
theorem sc_in_rows : FnScope n_in_rows p_in_rows (defScope s_in_rows) := ⟨rfl, rfl, rfl, by decide +kernel, rfl, by decide +kernel, by decide +kernel⟩

abbrev s_half_of : Stmt := top 28
abbrev n_half_of : List Str := ["manner", "many"]
abbrev p_half_of : List Str := ["manner", "many"]
theorem sc_half_of : FnScope n_half_of p_half_of (defScope s_half_of) := ⟨rfl, rfl, rfl, by decide +kernel, rfl, by decide +kernel, by decide +kernel⟩

abbrev s_middle_of : Stmt := top 29
abbrev n_middle_of : List Str := ["manner", "k", "many", "half", "m", "n"]
abbrev p_middle_of : List Str := ["manner", "k", "many", "half"]
theorem sc_middle_of : FnScope n_middle_of p_middle_of (defScope s_middle_of) := ⟨rfl, rfl, rfl, by decide +kernel, rfl, by decide +kernel, by decide +kernel⟩

abbrev s_middles_of : Stmt := top 30
abbrev n_middles_of : List Str := ["many", "manner", "size", "half", "k"]
abbrev p_middles_of : List Str := ["many", "manner", "size"]
theorem sc_middles_of : FnScope n_middles_of p_middles_of (defScope s_middles_of) := ⟨rfl, rfl, rfl, by decide +kernel, rfl, by decide +kernel, by decide +kernel⟩

abbrev s_has_group : Stmt := top 31
abbrev n_has_group : List Str := ["charge", "many", "manner", "size", "p", "r", "middle", "x", "y"]
abbrev p_has_group : List Str := ["charge", "many", "manner", "size", "p", "r"]
theorem sc_has_group : FnScope n_has_group p_has_group (defScope s_has_group) := ⟨rfl, rfl, rfl, by decide +kernel, rfl, by decide +kernel, by decide +kernel⟩

abbrev s_Layer_init : Stmt := inClass (top 45) 0
abbrev n_Layer_init : List Str := ["self", "kind", "numbers", "fill"]
abbrev p_Layer_init : List Str := ["self", "kind", "numbers", "fill"]
theorem sc_Layer_init : FnScope n_Layer_init p_Layer_init (defScope s_Layer_init) := ⟨rfl, rfl, rfl, by decide +kernel, rfl, by decide +kernel, by decide +kernel⟩

abbrev s_Arms_init : Stmt := inClass (top 46) 0
abbrev n_Arms_init : List Str := ["self", "field"]
abbrev p_Arms_init : List Str := ["self", "field"]
theorem sc_Arms_init : FnScope n_Arms_init p_Arms_init (defScope s_Arms_init) := ⟨rfl, rfl, rfl, by decide +kernel, rfl, by decide +kernel, by decide +kernel⟩

abbrev s_Coat_init : Stmt := inClass (top 47) 0
abbrev n_Coat_init : List Str := ["self", "kind"]
abbrev p_Coat_init : List Str := ["self", "kind"]
theorem sc_Coat_init : FnScope n_Coat_init p_Coat_init (defScope s_Coat_init) := ⟨rfl, rfl, rfl, by decide +kernel, rfl, by decide +kernel, by decide +kernel⟩

abbrev s_Spot_init : Stmt := inClass (top 48) 0
abbrev n_Spot_init : List Str := ["self", "number", "coat", "p", "r"]
abbrev p_Spot_init : List Str := ["self", "number", "coat", "p", "r"]
theorem sc_Spot_init : FnScope n_Spot_init p_Spot_init (defScope s_Spot_init) := ⟨rfl, rfl, rfl, by decide +kernel, rfl, by decide +kernel, by decide +kernel⟩

abbrev s_has_first : Stmt := top 49
abbrev n_has_first : List Str := ["field", "p", "r"]
abbrev p_has_first : List Str := ["field", "p", "r"]
theorem sc_has_first : FnScope n_has_first p_has_first (defScope s_has_first) := ⟨rfl, rfl, rfl, by decide +kernel, rfl, by decide +kernel, by decide +kernel⟩

abbrev s_tincture_of : Stmt := top 50
abbrev n_tincture_of : List Str := ["field", "p", "r"]
abbrev p_tincture_of : List Str := ["field", "p", "r"]
theorem sc_tincture_of : FnScope n_tincture_of p_tincture_of (defScope s_tincture_of) := ⟨rfl, rfl, rfl, by decide +kernel, rfl, by decide +kernel, by decide +kernel⟩

abbrev s_has_layer : Stmt := top 51
abbrev n_has_layer : List Str := ["layer", "p", "r", "charge", "many", "manner", "size"]
abbrev p_has_layer : List Str := ["layer", "p", "r"]
theorem sc_has_layer : FnScope n_has_layer p_has_layer (defScope s_has_layer) := ⟨rfl, rfl, rfl, by decide +kernel, rfl, by decide +kernel, by decide +kernel⟩

abbrev s_arms_at : Stmt := top 52
abbrev n_arms_at : List Str := ["arms", "p", "r", "layer"]
abbrev p_arms_at : List Str := ["arms", "p", "r"]
theorem sc_arms_at : FnScope n_arms_at p_arms_at (defScope s_arms_at) := ⟨rfl, rfl, rfl, by decide +kernel, rfl, by decide +kernel, by decide +kernel⟩

abbrev s_band_at : Stmt := top 53
abbrev n_band_at : List Str := ["marks", "p", "r", "slot", "g", "k"]
abbrev p_band_at : List Str := ["marks", "p", "r"]
theorem sc_band_at : FnScope n_band_at p_band_at (defScope s_band_at) := ⟨rfl, rfl, rfl, by decide +kernel, rfl, by decide +kernel, by decide +kernel⟩

abbrev s_marked_at : Stmt := top 54
abbrev n_marked_at : List Str := ["coat", "p", "r"]
abbrev p_marked_at : List Str := ["coat", "p", "r"]
theorem sc_marked_at : FnScope n_marked_at p_marked_at (defScope s_marked_at) := ⟨rfl, rfl, rfl, by decide +kernel, rfl, by decide +kernel, by decide +kernel⟩

abbrev s_how_many_parts : Stmt := top 55
abbrev n_how_many_parts : List Str := ["coat", "one"]
abbrev p_how_many_parts : List Str := ["coat"]
theorem sc_how_many_parts : FnScope n_how_many_parts p_how_many_parts (defScope s_how_many_parts) := ⟨rfl, rfl, rfl, by decide +kernel, rfl, by decide +kernel, by decide +kernel⟩

abbrev s_side_of : Stmt := top 56
abbrev n_side_of : List Str := ["many", "side"]
abbrev p_side_of : List Str := ["many"]
theorem sc_side_of : FnScope n_side_of p_side_of (defScope s_side_of) := ⟨rfl, rfl, rfl, by decide +kernel, rfl, by decide +kernel, by decide +kernel⟩

abbrev s_quarter_at : Stmt := top 57
abbrev n_quarter_at : List Str := ["coat", "p", "r", "side", "number"]
abbrev p_quarter_at : List Str := ["coat", "p", "r"]
theorem sc_quarter_at : FnScope n_quarter_at p_quarter_at (defScope s_quarter_at) := ⟨rfl, rfl, rfl, by decide +kernel, rfl, by decide +kernel, by decide +kernel⟩

abbrev s_within : Stmt := top 58
abbrev n_within : List Str := ["coat", "p", "r"]
abbrev p_within : List Str := ["coat", "p", "r"]
theorem sc_within : FnScope n_within p_within (defScope s_within) := ⟨rfl, rfl, rfl, by decide +kernel, rfl, by decide +kernel, by decide +kernel⟩

abbrev s_spot_of : Stmt := top 59
abbrev n_spot_of : List Str := ["coat", "p", "r", "number", "place", "one"]
abbrev p_spot_of : List Str := ["coat", "p", "r"]
theorem sc_spot_of : FnScope n_spot_of p_spot_of (defScope s_spot_of) := ⟨rfl, rfl, rfl, by decide +kernel, rfl, by decide +kernel, by decide +kernel⟩

abbrev s_NoCoat_init : Stmt := inClass (top 63) 0
abbrev n_NoCoat_init : List Str := ["self", "place"]
abbrev p_NoCoat_init : List Str := ["self", "place"]
theorem sc_NoCoat_init : FnScope n_NoCoat_init p_NoCoat_init (defScope s_NoCoat_init) := ⟨rfl, rfl, rfl, by decide +kernel, rfl, by decide +kernel, by decide +kernel⟩

abbrev s_Bytes_init : Stmt := inClass (top 64) 0
abbrev n_Bytes_init : List Str := ["self", "some"]
abbrev p_Bytes_init : List Str := ["self", "some"]
theorem sc_Bytes_init : FnScope n_Bytes_init p_Bytes_init (defScope s_Bytes_init) := ⟨rfl, rfl, rfl, by decide +kernel, rfl, by decide +kernel, by decide +kernel⟩

abbrev s_read_byte : Stmt := top 65
abbrev n_read_byte : List Str := ["source", "least", "most", "at"]
abbrev p_read_byte : List Str := ["source", "least", "most"]
theorem sc_read_byte : FnScope n_read_byte p_read_byte (defScope s_read_byte) := ⟨rfl, rfl, rfl, by decide +kernel, rfl, by decide +kernel, by decide +kernel⟩

abbrev s_read_tinctures : Stmt := top 66
abbrev n_read_tinctures : List Str := ["source", "one", "other"]
abbrev p_read_tinctures : List Str := ["source"]
theorem sc_read_tinctures : FnScope n_read_tinctures p_read_tinctures (defScope s_read_tinctures) := ⟨rfl, rfl, rfl, by decide +kernel, rfl, by decide +kernel, by decide +kernel⟩

abbrev s_read_field : Stmt := top 67
abbrev n_read_field : List Str := ["source", "kind", "way", "n"]
abbrev p_read_field : List Str := ["source"]
theorem sc_read_field : FnScope n_read_field p_read_field (defScope s_read_field) := ⟨rfl, rfl, rfl, by decide +kernel, rfl, by decide +kernel, by decide +kernel⟩

abbrev s_read_fill : Stmt := top 68
abbrev n_read_fill : List Str := ["source", "arms"]
abbrev p_read_fill : List Str := ["source", "arms"]
theorem sc_read_fill : FnScope n_read_fill p_read_fill (defScope s_read_fill) := ⟨rfl, rfl, rfl, by decide +kernel, rfl, by decide +kernel, by decide +kernel⟩

abbrev s_read_layer : Stmt := top 69
abbrev n_read_layer : List Str := ["source", "arms", "kind", "numbers"]
abbrev p_read_layer : List Str := ["source", "arms"]
theorem sc_read_layer : FnScope n_read_layer p_read_layer (defScope s_read_layer) := ⟨rfl, rfl, rfl, by decide +kernel, rfl, by decide +kernel, by decide +kernel⟩

abbrev s_read_arms : Stmt := top 70
abbrev n_read_arms : List Str := ["source", "arms", "turn"]
abbrev p_read_arms : List Str := ["source"]
theorem sc_read_arms : FnScope n_read_arms p_read_arms (defScope s_read_arms) := ⟨rfl, rfl, rfl, by decide +kernel, rfl, by decide +kernel, by decide +kernel⟩

abbrev s_read_marked : Stmt := top 71
abbrev n_read_marked : List Str := ["source", "coat", "turn", "g"]
abbrev p_read_marked : List Str := ["source"]
theorem sc_read_marked : FnScope n_read_marked p_read_marked (defScope s_read_marked) := ⟨rfl, rfl, rfl, by decide +kernel, rfl, by decide +kernel, by decide +kernel⟩

abbrev s_read_coat : Stmt := top 72
abbrev n_read_coat : List Str := ["source", "deep", "kind", "coat", "many", "turn"]
abbrev p_read_coat : List Str := ["source", "deep"]
theorem sc_read_coat : FnScope n_read_coat p_read_coat (defScope s_read_coat) := ⟨rfl, rfl, rfl, by decide +kernel, rfl, by decide +kernel, by decide +kernel⟩

abbrev s_coat_of_bytes : Stmt := top 73
abbrev n_coat_of_bytes : List Str := ["some", "source", "coat"]
abbrev p_coat_of_bytes : List Str := ["some"]
theorem sc_coat_of_bytes : FnScope n_coat_of_bytes p_coat_of_bytes (defScope s_coat_of_bytes) := ⟨rfl, rfl, rfl, by decide +kernel, rfl, by decide +kernel, by decide +kernel⟩

abbrev s_is_point : Stmt := top 77
abbrev n_is_point : List Str := ["p", "r"]
abbrev p_is_point : List Str := ["p", "r"]
theorem sc_is_point : FnScope n_is_point p_is_point (defScope s_is_point) := ⟨rfl, rfl, rfl, by decide +kernel, rfl, by decide +kernel, by decide +kernel⟩

abbrev s_at : Stmt := top 78
abbrev n_at : List Str := ["p", "r", "c", "coat", "e", "spot"]
abbrev p_at : List Str := ["p", "r", "c"]
theorem sc_at : FnScope n_at p_at (defScope s_at) := ⟨rfl, rfl, rfl, by decide +kernel, rfl, by decide +kernel, by decide +kernel⟩

def dd_Middle_init : He.DefD := ⟨("Middle", some "__init__"), "__init__", "Middle.__init__", defArgs s_Middle_init, defBody s_Middle_init, defScope s_Middle_init, [], []⟩
def dd_Layer_init : He.DefD := ⟨("Layer", some "__init__"), "__init__", "Layer.__init__", defArgs s_Layer_init, defBody s_Layer_init, defScope s_Layer_init, [], []⟩
def dd_Arms_init : He.DefD := ⟨("Arms", some "__init__"), "__init__", "Arms.__init__", defArgs s_Arms_init, defBody s_Arms_init, defScope s_Arms_init, [], []⟩
def dd_Coat_init : He.DefD := ⟨("Coat", some "__init__"), "__init__", "Coat.__init__", defArgs s_Coat_init, defBody s_Coat_init, defScope s_Coat_init, [], []⟩
def dd_Spot_init : He.DefD := ⟨("Spot", some "__init__"), "__init__", "Spot.__init__", defArgs s_Spot_init, defBody s_Spot_init, defScope s_Spot_init, [], []⟩
def dd_NoCoat_init : He.DefD := ⟨("NoCoat", some "__init__"), "__init__", "NoCoat.__init__", defArgs s_NoCoat_init, defBody s_NoCoat_init, defScope s_NoCoat_init, [], []⟩
def dd_Bytes_init : He.DefD := ⟨("Bytes", some "__init__"), "__init__", "Bytes.__init__", defArgs s_Bytes_init, defBody s_Bytes_init, defScope s_Bytes_init, [], []⟩
def dd_off : He.DefD := ⟨("off", none), "off", "off", defArgs s_off, defBody s_off, defScope s_off, [], []⟩
def dd_bend_of : He.DefD := ⟨("bend_of", none), "bend_of", "bend_of", defArgs s_bend_of, defBody s_bend_of, defScope s_bend_of, [], []⟩
def dd_other_side : He.DefD := ⟨("other_side", none), "other_side", "other_side", defArgs s_other_side, defBody s_other_side, defScope s_other_side, [], []⟩
def dd_bend_off : He.DefD := ⟨("bend_off", none), "bend_off", "bend_off", defArgs s_bend_off, defBody s_bend_off, defScope s_bend_off, [], []⟩
def dd_is_above_bend : He.DefD := ⟨("is_above_bend", none), "is_above_bend", "is_above_bend", defArgs s_is_above_bend, defBody s_is_above_bend, defScope s_is_above_bend, [], []⟩
def dd_is_parted : He.DefD := ⟨("is_parted", none), "is_parted", "is_parted", defArgs s_is_parted, defBody s_is_parted, defScope s_is_parted, [], []⟩
def dd_bendy_number : He.DefD := ⟨("bendy_number", none), "bendy_number", "bendy_number", defArgs s_bendy_number, defBody s_bendy_number, defScope s_bendy_number, [], []⟩
def dd_piece_number : He.DefD := ⟨("piece_number", none), "piece_number", "piece_number", defArgs s_piece_number, defBody s_piece_number, defScope s_piece_number, [], []⟩
def dd_is_near_bend : He.DefD := ⟨("is_near_bend", none), "is_near_bend", "is_near_bend", defArgs s_is_near_bend, defBody s_is_near_bend, defScope s_is_near_bend, [], []⟩
def dd_is_on_edge : He.DefD := ⟨("is_on_edge", none), "is_on_edge", "is_on_edge", defArgs s_is_on_edge, defBody s_is_on_edge, defScope s_is_on_edge, [], []⟩
def dd_is_on_straight : He.DefD := ⟨("is_on_straight", none), "is_on_straight", "is_on_straight", defArgs s_is_on_straight, defBody s_is_on_straight, defScope s_is_on_straight, [], []⟩
def dd_has_ordinary : He.DefD := ⟨("has_ordinary", none), "has_ordinary", "has_ordinary", defArgs s_has_ordinary, defBody s_has_ordinary, defScope s_has_ordinary, [], []⟩
def dd_is_round : He.DefD := ⟨("is_round", none), "is_round", "is_round", defArgs s_is_round, defBody s_is_round, defScope s_is_round, [], []⟩
def dd_is_mullet : He.DefD := ⟨("is_mullet", none), "is_mullet", "is_mullet", defArgs s_is_mullet, defBody s_is_mullet, defScope s_is_mullet, [], []⟩
def dd_is_crossed : He.DefD := ⟨("is_crossed", none), "is_crossed", "is_crossed", defArgs s_is_crossed, defBody s_is_crossed, defScope s_is_crossed, [], []⟩
def dd_is_tower : He.DefD := ⟨("is_tower", none), "is_tower", "is_tower", defArgs s_is_tower, defBody s_is_tower, defScope s_is_tower, [], []⟩
def dd_is_wheel : He.DefD := ⟨("is_wheel", none), "is_wheel", "is_wheel", defArgs s_is_wheel, defBody s_is_wheel, defScope s_is_wheel, [], []⟩
def dd_is_arrow : He.DefD := ⟨("is_arrow", none), "is_arrow", "is_arrow", defArgs s_is_arrow, defBody s_is_arrow, defScope s_is_arrow, [], []⟩
def dd_has_charge : He.DefD := ⟨("has_charge", none), "has_charge", "has_charge", defArgs s_has_charge, defBody s_has_charge, defScope s_has_charge, [], []⟩
def dd_part_of : He.DefD := ⟨("part_of", none), "part_of", "part_of", defArgs s_part_of, defBody s_part_of, defScope s_part_of, [], []⟩
def dd_in_rows : He.DefD := ⟨("in_rows", none), "in_rows", "in_rows", defArgs s_in_rows, defBody s_in_rows, defScope s_in_rows, [], []⟩
def dd_half_of : He.DefD := ⟨("half_of", none), "half_of", "half_of", defArgs s_half_of, defBody s_half_of, defScope s_half_of, [], []⟩
def dd_middle_of : He.DefD := ⟨("middle_of", none), "middle_of", "middle_of", defArgs s_middle_of, defBody s_middle_of, defScope s_middle_of, [], []⟩
def dd_middles_of : He.DefD := ⟨("middles_of", none), "middles_of", "middles_of", defArgs s_middles_of, defBody s_middles_of, defScope s_middles_of, [], []⟩
def dd_has_group : He.DefD := ⟨("has_group", none), "has_group", "has_group", defArgs s_has_group, defBody s_has_group, defScope s_has_group, [], []⟩
def dd_has_first : He.DefD := ⟨("has_first", none), "has_first", "has_first", defArgs s_has_first, defBody s_has_first, defScope s_has_first, [], []⟩
def dd_tincture_of : He.DefD := ⟨("tincture_of", none), "tincture_of", "tincture_of", defArgs s_tincture_of, defBody s_tincture_of, defScope s_tincture_of, [], []⟩
def dd_has_layer : He.DefD := ⟨("has_layer", none), "has_layer", "has_layer", defArgs s_has_layer, defBody s_has_layer, defScope s_has_layer, [], []⟩
def dd_arms_at : He.DefD := ⟨("arms_at", none), "arms_at", "arms_at", defArgs s_arms_at, defBody s_arms_at, defScope s_arms_at, [], []⟩
def dd_band_at : He.DefD := ⟨("band_at", none), "band_at", "band_at", defArgs s_band_at, defBody s_band_at, defScope s_band_at, [], []⟩
def dd_marked_at : He.DefD := ⟨("marked_at", none), "marked_at", "marked_at", defArgs s_marked_at, defBody s_marked_at, defScope s_marked_at, [], []⟩
def dd_how_many_parts : He.DefD := ⟨("how_many_parts", none), "how_many_parts", "how_many_parts", defArgs s_how_many_parts, defBody s_how_many_parts, defScope s_how_many_parts, [], []⟩
def dd_side_of : He.DefD := ⟨("side_of", none), "side_of", "side_of", defArgs s_side_of, defBody s_side_of, defScope s_side_of, [], []⟩
def dd_quarter_at : He.DefD := ⟨("quarter_at", none), "quarter_at", "quarter_at", defArgs s_quarter_at, defBody s_quarter_at, defScope s_quarter_at, [], []⟩
def dd_within : He.DefD := ⟨("within", none), "within", "within", defArgs s_within, defBody s_within, defScope s_within, [], []⟩
def dd_spot_of : He.DefD := ⟨("spot_of", none), "spot_of", "spot_of", defArgs s_spot_of, defBody s_spot_of, defScope s_spot_of, [], []⟩
def dd_read_byte : He.DefD := ⟨("read_byte", none), "read_byte", "read_byte", defArgs s_read_byte, defBody s_read_byte, defScope s_read_byte, [], []⟩
def dd_read_tinctures : He.DefD := ⟨("read_tinctures", none), "read_tinctures", "read_tinctures", defArgs s_read_tinctures, defBody s_read_tinctures, defScope s_read_tinctures, [], []⟩
def dd_read_field : He.DefD := ⟨("read_field", none), "read_field", "read_field", defArgs s_read_field, defBody s_read_field, defScope s_read_field, [], []⟩
def dd_read_fill : He.DefD := ⟨("read_fill", none), "read_fill", "read_fill", defArgs s_read_fill, defBody s_read_fill, defScope s_read_fill, [], []⟩
def dd_read_layer : He.DefD := ⟨("read_layer", none), "read_layer", "read_layer", defArgs s_read_layer, defBody s_read_layer, defScope s_read_layer, [], []⟩
def dd_read_arms : He.DefD := ⟨("read_arms", none), "read_arms", "read_arms", defArgs s_read_arms, defBody s_read_arms, defScope s_read_arms, [], []⟩
def dd_read_marked : He.DefD := ⟨("read_marked", none), "read_marked", "read_marked", defArgs s_read_marked, defBody s_read_marked, defScope s_read_marked, [], []⟩
def dd_read_coat : He.DefD := ⟨("read_coat", none), "read_coat", "read_coat", defArgs s_read_coat, defBody s_read_coat, defScope s_read_coat, [], []⟩
def dd_coat_of_bytes : He.DefD := ⟨("coat_of_bytes", none), "coat_of_bytes", "coat_of_bytes", defArgs s_coat_of_bytes, defBody s_coat_of_bytes, defScope s_coat_of_bytes, [], []⟩
def dd_is_point : He.DefD := ⟨("is_point", none), "is_point", "is_point", defArgs s_is_point, defBody s_is_point, defScope s_is_point, [], []⟩
def dd_at : He.DefD := ⟨("at", none), "at", "at", defArgs s_at, defBody s_at, defScope s_at, [], []⟩
/-- what the top has written -/
structure Txt (w : World) (K : PySem.W.Frag) (mg : Str → Option Value) : Prop where
  i_ARGENT : ∃ t, mg "ARGENT" = some (.int 1 t)
  i_BAND : ∃ t, mg "BAND" = some (.int 96 t)
  i_GROUP : ∃ t, mg "GROUP" = some (.int 1 t)
  i_HIGH : ∃ t, mg "HIGH" = some (.int 576 t)
  i_IMPALED : ∃ t, mg "IMPALED" = some (.int 2 t)
  i_MARKED : ∃ t, mg "MARKED" = some (.int 0 t)
  i_MOST_DEEP : ∃ t, mg "MOST_DEEP" = some (.int 4 t)
  i_MOST_LAYERS : ∃ t, mg "MOST_LAYERS" = some (.int 8 t)
  i_MOST_MARKS : ∃ t, mg "MOST_MARKS" = some (.int 60 t)
  i_MURREY : ∃ t, mg "MURREY" = some (.int 9 t)
  i_NO_COAT : ∃ t, mg "NO_COAT" = some (.int (-1) t)
  i_NO_POINT : ∃ t, mg "NO_POINT" = some (.int (-2) t)
  i_ORDINARY : ∃ t, mg "ORDINARY" = some (.int 0 t)
  i_PARTED : ∃ t, mg "PARTED" = some (.int 1 t)
  i_PLAIN : ∃ t, mg "PLAIN" = some (.int 0 t)
  i_QUARTERLY : ∃ t, mg "QUARTERLY" = some (.int 1 t)
  i_REACH : ∃ t, mg "REACH" = some (.int 48 t)
  g_ROWS : mg "ROWS" = some (.ref (He.ga K "ROWS"))
  t_ROWS : ∀ H : Hp, Rows K H (He.ga K "ROWS") [[1], [2], [2, 1], [2, 2], [2, 1, 2], [3, 2, 1], [3, 3, 1], [3, 2, 3], [3, 3, 3], [4, 3, 2, 1]]
  i_VARIED : ∃ t, mg "VARIED" = some (.int 2 t)
  i_WIDE : ∃ t, mg "WIDE" = some (.int 480 t)
  f_abs : mg "abs" = none
  f_enumerate : mg "enumerate" = none
  f_int : mg "int" = none
  f_len : mg "len" = none
  f_max : mg "max" = none
  f_min : mg "min" = none
  f_range : mg "range" = none
  f_reversed : mg "reversed" = none
  f_sum : mg "sum" = none
  g_Middle : mg "Middle" = some (.ref (He.ga K "Middle"))
  di_Middle : DefI K "Middle" "Middle.__init__" s_Middle_init p_Middle_init
  c_Middle : Cls K (He.ga K "Middle")
  m_Middle : Mk K (He.ga K "Middle") (He.ma K (He.ga K "Middle") "__init__")
  n_Middle_m : NoAttr K (He.ga K "Middle") "m"
  n_Middle_n : NoAttr K (He.ga K "Middle") "n"
  n_Middle_half : NoAttr K (He.ga K "Middle") "half"
  g_Layer : mg "Layer" = some (.ref (He.ga K "Layer"))
  di_Layer : DefI K "Layer" "Layer.__init__" s_Layer_init p_Layer_init
  c_Layer : Cls K (He.ga K "Layer")
  m_Layer : Mk K (He.ga K "Layer") (He.ma K (He.ga K "Layer") "__init__")
  n_Layer_kind : NoAttr K (He.ga K "Layer") "kind"
  n_Layer_numbers : NoAttr K (He.ga K "Layer") "numbers"
  n_Layer_fill : NoAttr K (He.ga K "Layer") "fill"
  g_Arms : mg "Arms" = some (.ref (He.ga K "Arms"))
  di_Arms : DefI K "Arms" "Arms.__init__" s_Arms_init p_Arms_init
  c_Arms : Cls K (He.ga K "Arms")
  m_Arms : Mk K (He.ga K "Arms") (He.ma K (He.ga K "Arms") "__init__")
  n_Arms_field : NoAttr K (He.ga K "Arms") "field"
  n_Arms_layers : NoAttr K (He.ga K "Arms") "layers"
  g_Coat : mg "Coat" = some (.ref (He.ga K "Coat"))
  di_Coat : DefI K "Coat" "Coat.__init__" s_Coat_init p_Coat_init
  c_Coat : Cls K (He.ga K "Coat")
  m_Coat : Mk K (He.ga K "Coat") (He.ma K (He.ga K "Coat") "__init__")
  n_Coat_kind : NoAttr K (He.ga K "Coat") "kind"
  n_Coat_arms : NoAttr K (He.ga K "Coat") "arms"
  n_Coat_canton : NoAttr K (He.ga K "Coat") "canton"
  n_Coat_marks : NoAttr K (He.ga K "Coat") "marks"
  n_Coat_coats : NoAttr K (He.ga K "Coat") "coats"
  g_Spot : mg "Spot" = some (.ref (He.ga K "Spot"))
  di_Spot : DefI K "Spot" "Spot.__init__" s_Spot_init p_Spot_init
  c_Spot : Cls K (He.ga K "Spot")
  m_Spot : Mk K (He.ga K "Spot") (He.ma K (He.ga K "Spot") "__init__")
  n_Spot_number : NoAttr K (He.ga K "Spot") "number"
  n_Spot_coat : NoAttr K (He.ga K "Spot") "coat"
  n_Spot_p : NoAttr K (He.ga K "Spot") "p"
  n_Spot_r : NoAttr K (He.ga K "Spot") "r"
  g_NoCoat : mg "NoCoat" = some (.ref (He.ga K "NoCoat"))
  di_NoCoat : DefI K "NoCoat" "NoCoat.__init__" s_NoCoat_init p_NoCoat_init
  x_NoCoat : ErrT K "NoCoat" ["place"]
  g_Bytes : mg "Bytes" = some (.ref (He.ga K "Bytes"))
  di_Bytes : DefI K "Bytes" "Bytes.__init__" s_Bytes_init p_Bytes_init
  c_Bytes : Cls K (He.ga K "Bytes")
  m_Bytes : Mk K (He.ga K "Bytes") (He.ma K (He.ga K "Bytes") "__init__")
  n_Bytes_some : NoAttr K (He.ga K "Bytes") "some"
  n_Bytes_at : NoAttr K (He.ga K "Bytes") "at"
  d_off : Def K mg "off" s_off p_off
  d_bend_of : Def K mg "bend_of" s_bend_of p_bend_of
  d_other_side : Def K mg "other_side" s_other_side p_other_side
  d_bend_off : Def K mg "bend_off" s_bend_off p_bend_off
  d_is_above_bend : Def K mg "is_above_bend" s_is_above_bend p_is_above_bend
  d_is_parted : Def K mg "is_parted" s_is_parted p_is_parted
  d_bendy_number : Def K mg "bendy_number" s_bendy_number p_bendy_number
  d_piece_number : Def K mg "piece_number" s_piece_number p_piece_number
  d_is_near_bend : Def K mg "is_near_bend" s_is_near_bend p_is_near_bend
  d_is_on_edge : Def K mg "is_on_edge" s_is_on_edge p_is_on_edge
  d_is_on_straight : Def K mg "is_on_straight" s_is_on_straight p_is_on_straight
  d_has_ordinary : Def K mg "has_ordinary" s_has_ordinary p_has_ordinary
  d_is_round : Def K mg "is_round" s_is_round p_is_round
  d_is_mullet : Def K mg "is_mullet" s_is_mullet p_is_mullet
  d_is_crossed : Def K mg "is_crossed" s_is_crossed p_is_crossed
  d_is_tower : Def K mg "is_tower" s_is_tower p_is_tower
  d_is_wheel : Def K mg "is_wheel" s_is_wheel p_is_wheel
  d_is_arrow : Def K mg "is_arrow" s_is_arrow p_is_arrow
  d_has_charge : Def K mg "has_charge" s_has_charge p_has_charge
  d_part_of : Def K mg "part_of" s_part_of p_part_of
  d_in_rows : Def K mg "in_rows" s_in_rows p_in_rows
  d_half_of : Def K mg "half_of" s_half_of p_half_of
  d_middle_of : Def K mg "middle_of" s_middle_of p_middle_of
  d_middles_of : Def K mg "middles_of" s_middles_of p_middles_of
  d_has_group : Def K mg "has_group" s_has_group p_has_group
  d_has_first : Def K mg "has_first" s_has_first p_has_first
  d_tincture_of : Def K mg "tincture_of" s_tincture_of p_tincture_of
  d_has_layer : Def K mg "has_layer" s_has_layer p_has_layer
  d_arms_at : Def K mg "arms_at" s_arms_at p_arms_at
  d_band_at : Def K mg "band_at" s_band_at p_band_at
  d_marked_at : Def K mg "marked_at" s_marked_at p_marked_at
  d_how_many_parts : Def K mg "how_many_parts" s_how_many_parts p_how_many_parts
  d_side_of : Def K mg "side_of" s_side_of p_side_of
  d_quarter_at : Def K mg "quarter_at" s_quarter_at p_quarter_at
  d_within : Def K mg "within" s_within p_within
  d_spot_of : Def K mg "spot_of" s_spot_of p_spot_of
  d_read_byte : Def K mg "read_byte" s_read_byte p_read_byte
  d_read_tinctures : Def K mg "read_tinctures" s_read_tinctures p_read_tinctures
  d_read_field : Def K mg "read_field" s_read_field p_read_field
  d_read_fill : Def K mg "read_fill" s_read_fill p_read_fill
  d_read_layer : Def K mg "read_layer" s_read_layer p_read_layer
  d_read_arms : Def K mg "read_arms" s_read_arms p_read_arms
  d_read_marked : Def K mg "read_marked" s_read_marked p_read_marked
  d_read_coat : Def K mg "read_coat" s_read_coat p_read_coat
  d_coat_of_bytes : Def K mg "coat_of_bytes" s_coat_of_bytes p_coat_of_bytes
  d_is_point : Def K mg "is_point" s_is_point p_is_point
  d_at : Def K mg "at" s_at p_at
def fa : List He.Fa := [.int "ARGENT" 1, .int "BAND" 96, .int "GROUP" 1, .int "HIGH" 576, .int "IMPALED" 2, .int "MARKED" 0, .int "MOST_DEEP" 4, .int "MOST_LAYERS" 8, .int "MOST_MARKS" 60, .int "MURREY" 9, .int "NO_COAT" (-1), .int "NO_POINT" (-2), .int "ORDINARY" 0, .int "PARTED" 1, .int "PLAIN" 0, .int "QUARTERLY" 1, .int "REACH" 48, .glo "ROWS", .int "VARIED" 2, .int "WIDE" 480, .free "abs", .free "enumerate", .free "int", .free "len", .free "max", .free "min", .free "range", .free "reversed", .free "sum", .glo "Middle", .cls "Middle", .mkr "Middle", .noat "Middle" "m", .noat "Middle" "n", .noat "Middle" "half", .glo "Layer", .cls "Layer", .mkr "Layer", .noat "Layer" "kind", .noat "Layer" "numbers", .noat "Layer" "fill", .glo "Arms", .cls "Arms", .mkr "Arms", .noat "Arms" "field", .noat "Arms" "layers", .glo "Coat", .cls "Coat", .mkr "Coat", .noat "Coat" "kind", .noat "Coat" "arms", .noat "Coat" "canton", .noat "Coat" "marks", .noat "Coat" "coats", .glo "Spot", .cls "Spot", .mkr "Spot", .noat "Spot" "number", .noat "Spot" "coat", .noat "Spot" "p", .noat "Spot" "r", .glo "NoCoat", .glo "Bytes", .cls "Bytes", .mkr "Bytes", .noat "Bytes" "some", .noat "Bytes" "at", .glo "off", .glo "bend_of", .glo "other_side", .glo "bend_off", .glo "is_above_bend", .glo "is_parted", .glo "bendy_number", .glo "piece_number", .glo "is_near_bend", .glo "is_on_edge", .glo "is_on_straight", .glo "has_ordinary", .glo "is_round", .glo "is_mullet", .glo "is_crossed", .glo "is_tower", .glo "is_wheel", .glo "is_arrow", .glo "has_charge", .glo "part_of", .glo "in_rows", .glo "half_of", .glo "middle_of", .glo "middles_of", .glo "has_group", .glo "has_first", .glo "tincture_of", .glo "has_layer", .glo "arms_at", .glo "band_at", .glo "marked_at", .glo "how_many_parts", .glo "side_of", .glo "quarter_at", .glo "within", .glo "spot_of", .glo "read_byte", .glo "read_tinctures", .glo "read_field", .glo "read_fill", .glo "read_layer", .glo "read_arms", .glo "read_marked", .glo "read_coat", .glo "coat_of_bytes", .glo "is_point", .glo "at"]
def fn : List He.DefD := [dd_Middle_init, dd_Layer_init, dd_Arms_init, dd_Coat_init, dd_Spot_init, dd_NoCoat_init, dd_Bytes_init, dd_off, dd_bend_of, dd_other_side, dd_bend_off, dd_is_above_bend, dd_is_parted, dd_bendy_number, dd_piece_number, dd_is_near_bend, dd_is_on_edge, dd_is_on_straight, dd_has_ordinary, dd_is_round, dd_is_mullet, dd_is_crossed, dd_is_tower, dd_is_wheel, dd_is_arrow, dd_has_charge, dd_part_of, dd_in_rows, dd_half_of, dd_middle_of, dd_middles_of, dd_has_group, dd_has_first, dd_tincture_of, dd_has_layer, dd_arms_at, dd_band_at, dd_marked_at, dd_how_many_parts, dd_side_of, dd_quarter_at, dd_within, dd_spot_of, dd_read_byte, dd_read_tinctures, dd_read_field, dd_read_fill, dd_read_layer, dd_read_arms, dd_read_marked, dd_read_coat, dd_coat_of_bytes, dd_is_point, dd_at]
def tabs : List He.Tab := []
def exb (K : PySem.W.Frag) : Bool := tup2B K "ROWS" [[1], [2], [2, 1], [2, 2], [2, 1, 2], [3, 2, 1], [3, 3, 1], [3, 2, 3], [3, 3, 3], [4, 3, 2, 1]] && (errB K "NoCoat" ["place"])
theorem txt_of {w : World} {K : PySem.W.Frag} {h : Heap} {mg : Str → Option Value} (X : K.In h) (G : h.Ns mainGlobals mg) (c : He.SaysT fa fn tabs w K) (e : exb K = true) : Txt w K mg := by
  unfold exb at e
  obtain ⟨e0, e1⟩ := He.ba e
  exact {
    i_ARGENT := He.int_ok X G (fact_of c.d 0 rfl)
    i_BAND := He.int_ok X G (fact_of c.d 1 rfl)
    i_GROUP := He.int_ok X G (fact_of c.d 2 rfl)
    i_HIGH := He.int_ok X G (fact_of c.d 3 rfl)
    i_IMPALED := He.int_ok X G (fact_of c.d 4 rfl)
    i_MARKED := He.int_ok X G (fact_of c.d 5 rfl)
    i_MOST_DEEP := He.int_ok X G (fact_of c.d 6 rfl)
    i_MOST_LAYERS := He.int_ok X G (fact_of c.d 7 rfl)
    i_MOST_MARKS := He.int_ok X G (fact_of c.d 8 rfl)
    i_MURREY := He.int_ok X G (fact_of c.d 9 rfl)
    i_NO_COAT := He.int_ok X G (fact_of c.d 10 rfl)
    i_NO_POINT := He.int_ok X G (fact_of c.d 11 rfl)
    i_ORDINARY := He.int_ok X G (fact_of c.d 12 rfl)
    i_PARTED := He.int_ok X G (fact_of c.d 13 rfl)
    i_PLAIN := He.int_ok X G (fact_of c.d 14 rfl)
    i_QUARTERLY := He.int_ok X G (fact_of c.d 15 rfl)
    i_REACH := He.int_ok X G (fact_of c.d 16 rfl)
    g_ROWS := He.glo_ok X G (fact_of c.d 17 rfl)
    t_ROWS := fun H => tup2B_ok e0 H
    i_VARIED := He.int_ok X G (fact_of c.d 18 rfl)
    i_WIDE := He.int_ok X G (fact_of c.d 19 rfl)
    f_abs := He.free_ok X G (fact_of c.d 20 rfl)
    f_enumerate := He.free_ok X G (fact_of c.d 21 rfl)
    f_int := He.free_ok X G (fact_of c.d 22 rfl)
    f_len := He.free_ok X G (fact_of c.d 23 rfl)
    f_max := He.free_ok X G (fact_of c.d 24 rfl)
    f_min := He.free_ok X G (fact_of c.d 25 rfl)
    f_range := He.free_ok X G (fact_of c.d 26 rfl)
    f_reversed := He.free_ok X G (fact_of c.d 27 rfl)
    f_sum := He.free_ok X G (fact_of c.d 28 rfl)
    g_Middle := He.glo_ok X G (fact_of c.d 29 rfl)
    di_Middle := by
      obtain ⟨fd, D⟩ := c.d.def_ 0 (d := dd_Middle_init) rfl
      exact ⟨fd, D, FunD.bindsN D fun _ _ _ _ _ _ us hl => match us, hl with | [_, _, _, _], _ => rfl⟩
    c_Middle := He.cls_ok (fact_of c.d 30 rfl)
    m_Middle := He.mkr_ok (fact_of c.d 31 rfl)
    n_Middle_m := He.noat_ok (fact_of c.d 32 rfl)
    n_Middle_n := He.noat_ok (fact_of c.d 33 rfl)
    n_Middle_half := He.noat_ok (fact_of c.d 34 rfl)
    g_Layer := He.glo_ok X G (fact_of c.d 35 rfl)
    di_Layer := by
      obtain ⟨fd, D⟩ := c.d.def_ 1 (d := dd_Layer_init) rfl
      exact ⟨fd, D, FunD.bindsN D fun _ _ _ _ _ _ us hl => match us, hl with | [_, _, _, _], _ => rfl⟩
    c_Layer := He.cls_ok (fact_of c.d 36 rfl)
    m_Layer := He.mkr_ok (fact_of c.d 37 rfl)
    n_Layer_kind := He.noat_ok (fact_of c.d 38 rfl)
    n_Layer_numbers := He.noat_ok (fact_of c.d 39 rfl)
    n_Layer_fill := He.noat_ok (fact_of c.d 40 rfl)
    g_Arms := He.glo_ok X G (fact_of c.d 41 rfl)
    di_Arms := by
      obtain ⟨fd, D⟩ := c.d.def_ 2 (d := dd_Arms_init) rfl
      exact ⟨fd, D, FunD.bindsN D fun _ _ _ _ _ _ us hl => match us, hl with | [_, _], _ => rfl⟩
    c_Arms := He.cls_ok (fact_of c.d 42 rfl)
    m_Arms := He.mkr_ok (fact_of c.d 43 rfl)
    n_Arms_field := He.noat_ok (fact_of c.d 44 rfl)
    n_Arms_layers := He.noat_ok (fact_of c.d 45 rfl)
    g_Coat := He.glo_ok X G (fact_of c.d 46 rfl)
    di_Coat := by
      obtain ⟨fd, D⟩ := c.d.def_ 3 (d := dd_Coat_init) rfl
      exact ⟨fd, D, FunD.bindsN D fun _ _ _ _ _ _ us hl => match us, hl with | [_, _], _ => rfl⟩
    c_Coat := He.cls_ok (fact_of c.d 47 rfl)
    m_Coat := He.mkr_ok (fact_of c.d 48 rfl)
    n_Coat_kind := He.noat_ok (fact_of c.d 49 rfl)
    n_Coat_arms := He.noat_ok (fact_of c.d 50 rfl)
    n_Coat_canton := He.noat_ok (fact_of c.d 51 rfl)
    n_Coat_marks := He.noat_ok (fact_of c.d 52 rfl)
    n_Coat_coats := He.noat_ok (fact_of c.d 53 rfl)
    g_Spot := He.glo_ok X G (fact_of c.d 54 rfl)
    di_Spot := by
      obtain ⟨fd, D⟩ := c.d.def_ 4 (d := dd_Spot_init) rfl
      exact ⟨fd, D, FunD.bindsN D fun _ _ _ _ _ _ us hl => match us, hl with | [_, _, _, _, _], _ => rfl⟩
    c_Spot := He.cls_ok (fact_of c.d 55 rfl)
    m_Spot := He.mkr_ok (fact_of c.d 56 rfl)
    n_Spot_number := He.noat_ok (fact_of c.d 57 rfl)
    n_Spot_coat := He.noat_ok (fact_of c.d 58 rfl)
    n_Spot_p := He.noat_ok (fact_of c.d 59 rfl)
    n_Spot_r := He.noat_ok (fact_of c.d 60 rfl)
    g_NoCoat := He.glo_ok X G (fact_of c.d 61 rfl)
    di_NoCoat := by
      obtain ⟨fd, D⟩ := c.d.def_ 5 (d := dd_NoCoat_init) rfl
      exact ⟨fd, D, FunD.bindsN D fun _ _ _ _ _ _ us hl => match us, hl with | [_, _], _ => rfl⟩
    x_NoCoat := errB_ok e1
    g_Bytes := He.glo_ok X G (fact_of c.d 62 rfl)
    di_Bytes := by
      obtain ⟨fd, D⟩ := c.d.def_ 6 (d := dd_Bytes_init) rfl
      exact ⟨fd, D, FunD.bindsN D fun _ _ _ _ _ _ us hl => match us, hl with | [_, _], _ => rfl⟩
    c_Bytes := He.cls_ok (fact_of c.d 63 rfl)
    m_Bytes := He.mkr_ok (fact_of c.d 64 rfl)
    n_Bytes_some := He.noat_ok (fact_of c.d 65 rfl)
    n_Bytes_at := He.noat_ok (fact_of c.d 66 rfl)
    d_off := by
      obtain ⟨fd, D⟩ := c.d.def_ 7 (d := dd_off) rfl
      exact ⟨⟨fd, D, FunD.bindsN D fun _ _ _ _ _ _ us hl => match us, hl with | [_, _], _ => rfl⟩, He.glo_ok X G (fact_of c.d 67 rfl)⟩
    d_bend_of := by
      obtain ⟨fd, D⟩ := c.d.def_ 8 (d := dd_bend_of) rfl
      exact ⟨⟨fd, D, FunD.bindsN D fun _ _ _ _ _ _ us hl => match us, hl with | [_, _], _ => rfl⟩, He.glo_ok X G (fact_of c.d 68 rfl)⟩
    d_other_side := by
      obtain ⟨fd, D⟩ := c.d.def_ 9 (d := dd_other_side) rfl
      exact ⟨⟨fd, D, FunD.bindsN D fun _ _ _ _ _ _ us hl => match us, hl with | [_], _ => rfl⟩, He.glo_ok X G (fact_of c.d 69 rfl)⟩
    d_bend_off := by
      obtain ⟨fd, D⟩ := c.d.def_ 10 (d := dd_bend_off) rfl
      exact ⟨⟨fd, D, FunD.bindsN D fun _ _ _ _ _ _ us hl => match us, hl with | [_, _, _], _ => rfl⟩, He.glo_ok X G (fact_of c.d 70 rfl)⟩
    d_is_above_bend := by
      obtain ⟨fd, D⟩ := c.d.def_ 11 (d := dd_is_above_bend) rfl
      exact ⟨⟨fd, D, FunD.bindsN D fun _ _ _ _ _ _ us hl => match us, hl with | [_, _, _], _ => rfl⟩, He.glo_ok X G (fact_of c.d 71 rfl)⟩
    d_is_parted := by
      obtain ⟨fd, D⟩ := c.d.def_ 12 (d := dd_is_parted) rfl
      exact ⟨⟨fd, D, FunD.bindsN D fun _ _ _ _ _ _ us hl => match us, hl with | [_, _, _, _], _ => rfl⟩, He.glo_ok X G (fact_of c.d 72 rfl)⟩
    d_bendy_number := by
      obtain ⟨fd, D⟩ := c.d.def_ 13 (d := dd_bendy_number) rfl
      exact ⟨⟨fd, D, FunD.bindsN D fun _ _ _ _ _ _ us hl => match us, hl with | [_, _, _, _], _ => rfl⟩, He.glo_ok X G (fact_of c.d 73 rfl)⟩
    d_piece_number := by
      obtain ⟨fd, D⟩ := c.d.def_ 14 (d := dd_piece_number) rfl
      exact ⟨⟨fd, D, FunD.bindsN D fun _ _ _ _ _ _ us hl => match us, hl with | [_, _, _, _, _], _ => rfl⟩, He.glo_ok X G (fact_of c.d 74 rfl)⟩
    d_is_near_bend := by
      obtain ⟨fd, D⟩ := c.d.def_ 15 (d := dd_is_near_bend) rfl
      exact ⟨⟨fd, D, FunD.bindsN D fun _ _ _ _ _ _ us hl => match us, hl with | [_, _, _, _], _ => rfl⟩, He.glo_ok X G (fact_of c.d 75 rfl)⟩
    d_is_on_edge := by
      obtain ⟨fd, D⟩ := c.d.def_ 16 (d := dd_is_on_edge) rfl
      exact ⟨⟨fd, D, FunD.bindsN D fun _ _ _ _ _ _ us hl => match us, hl with | [_, _, _], _ => rfl⟩, He.glo_ok X G (fact_of c.d 76 rfl)⟩
    d_is_on_straight := by
      obtain ⟨fd, D⟩ := c.d.def_ 17 (d := dd_is_on_straight) rfl
      exact ⟨⟨fd, D, FunD.bindsN D fun _ _ _ _ _ _ us hl => match us, hl with | [_, _, _, _], _ => rfl⟩, He.glo_ok X G (fact_of c.d 77 rfl)⟩
    d_has_ordinary := by
      obtain ⟨fd, D⟩ := c.d.def_ 18 (d := dd_has_ordinary) rfl
      exact ⟨⟨fd, D, FunD.bindsN D fun _ _ _ _ _ _ us hl => match us, hl with | [_, _, _, _], _ => rfl⟩, He.glo_ok X G (fact_of c.d 78 rfl)⟩
    d_is_round := by
      obtain ⟨fd, D⟩ := c.d.def_ 19 (d := dd_is_round) rfl
      exact ⟨⟨fd, D, FunD.bindsN D fun _ _ _ _ _ _ us hl => match us, hl with | [_, _, _], _ => rfl⟩, He.glo_ok X G (fact_of c.d 79 rfl)⟩
    d_is_mullet := by
      obtain ⟨fd, D⟩ := c.d.def_ 20 (d := dd_is_mullet) rfl
      exact ⟨⟨fd, D, FunD.bindsN D fun _ _ _ _ _ _ us hl => match us, hl with | [_, _], _ => rfl⟩, He.glo_ok X G (fact_of c.d 80 rfl)⟩
    d_is_crossed := by
      obtain ⟨fd, D⟩ := c.d.def_ 21 (d := dd_is_crossed) rfl
      exact ⟨⟨fd, D, FunD.bindsN D fun _ _ _ _ _ _ us hl => match us, hl with | [_, _, _], _ => rfl⟩, He.glo_ok X G (fact_of c.d 81 rfl)⟩
    d_is_tower := by
      obtain ⟨fd, D⟩ := c.d.def_ 22 (d := dd_is_tower) rfl
      exact ⟨⟨fd, D, FunD.bindsN D fun _ _ _ _ _ _ us hl => match us, hl with | [_, _], _ => rfl⟩, He.glo_ok X G (fact_of c.d 82 rfl)⟩
    d_is_wheel := by
      obtain ⟨fd, D⟩ := c.d.def_ 23 (d := dd_is_wheel) rfl
      exact ⟨⟨fd, D, FunD.bindsN D fun _ _ _ _ _ _ us hl => match us, hl with | [_, _], _ => rfl⟩, He.glo_ok X G (fact_of c.d 83 rfl)⟩
    d_is_arrow := by
      obtain ⟨fd, D⟩ := c.d.def_ 24 (d := dd_is_arrow) rfl
      exact ⟨⟨fd, D, FunD.bindsN D fun _ _ _ _ _ _ us hl => match us, hl with | [_, _], _ => rfl⟩, He.glo_ok X G (fact_of c.d 84 rfl)⟩
    d_has_charge := by
      obtain ⟨fd, D⟩ := c.d.def_ 25 (d := dd_has_charge) rfl
      exact ⟨⟨fd, D, FunD.bindsN D fun _ _ _ _ _ _ us hl => match us, hl with | [_, _, _], _ => rfl⟩, He.glo_ok X G (fact_of c.d 85 rfl)⟩
    d_part_of := by
      obtain ⟨fd, D⟩ := c.d.def_ 26 (d := dd_part_of) rfl
      exact ⟨⟨fd, D, FunD.bindsN D fun _ _ _ _ _ _ us hl => match us, hl with | [_, _, _], _ => rfl⟩, He.glo_ok X G (fact_of c.d 86 rfl)⟩
    d_in_rows := by
      obtain ⟨fd, D⟩ := c.d.def_ 27 (d := dd_in_rows) rfl
      exact ⟨⟨fd, D, FunD.bindsN D fun _ _ _ _ _ _ us hl => match us, hl with | [_, _], _ => rfl⟩, He.glo_ok X G (fact_of c.d 87 rfl)⟩
    d_half_of := by
      obtain ⟨fd, D⟩ := c.d.def_ 28 (d := dd_half_of) rfl
      exact ⟨⟨fd, D, FunD.bindsN D fun _ _ _ _ _ _ us hl => match us, hl with | [_, _], _ => rfl⟩, He.glo_ok X G (fact_of c.d 88 rfl)⟩
    d_middle_of := by
      obtain ⟨fd, D⟩ := c.d.def_ 29 (d := dd_middle_of) rfl
      exact ⟨⟨fd, D, FunD.bindsN D fun _ _ _ _ _ _ us hl => match us, hl with | [_, _, _, _], _ => rfl⟩, He.glo_ok X G (fact_of c.d 89 rfl)⟩
    d_middles_of := by
      obtain ⟨fd, D⟩ := c.d.def_ 30 (d := dd_middles_of) rfl
      exact ⟨⟨fd, D, FunD.bindsN D fun _ _ _ _ _ _ us hl => match us, hl with | [_, _, _], _ => rfl⟩, He.glo_ok X G (fact_of c.d 90 rfl)⟩
    d_has_group := by
      obtain ⟨fd, D⟩ := c.d.def_ 31 (d := dd_has_group) rfl
      exact ⟨⟨fd, D, FunD.bindsN D fun _ _ _ _ _ _ us hl => match us, hl with | [_, _, _, _, _, _], _ => rfl⟩, He.glo_ok X G (fact_of c.d 91 rfl)⟩
    d_has_first := by
      obtain ⟨fd, D⟩ := c.d.def_ 32 (d := dd_has_first) rfl
      exact ⟨⟨fd, D, FunD.bindsN D fun _ _ _ _ _ _ us hl => match us, hl with | [_, _, _], _ => rfl⟩, He.glo_ok X G (fact_of c.d 92 rfl)⟩
    d_tincture_of := by
      obtain ⟨fd, D⟩ := c.d.def_ 33 (d := dd_tincture_of) rfl
      exact ⟨⟨fd, D, FunD.bindsN D fun _ _ _ _ _ _ us hl => match us, hl with | [_, _, _], _ => rfl⟩, He.glo_ok X G (fact_of c.d 93 rfl)⟩
    d_has_layer := by
      obtain ⟨fd, D⟩ := c.d.def_ 34 (d := dd_has_layer) rfl
      exact ⟨⟨fd, D, FunD.bindsN D fun _ _ _ _ _ _ us hl => match us, hl with | [_, _, _], _ => rfl⟩, He.glo_ok X G (fact_of c.d 94 rfl)⟩
    d_arms_at := by
      obtain ⟨fd, D⟩ := c.d.def_ 35 (d := dd_arms_at) rfl
      exact ⟨⟨fd, D, FunD.bindsN D fun _ _ _ _ _ _ us hl => match us, hl with | [_, _, _], _ => rfl⟩, He.glo_ok X G (fact_of c.d 95 rfl)⟩
    d_band_at := by
      obtain ⟨fd, D⟩ := c.d.def_ 36 (d := dd_band_at) rfl
      exact ⟨⟨fd, D, FunD.bindsN D fun _ _ _ _ _ _ us hl => match us, hl with | [_, _, _], _ => rfl⟩, He.glo_ok X G (fact_of c.d 96 rfl)⟩
    d_marked_at := by
      obtain ⟨fd, D⟩ := c.d.def_ 37 (d := dd_marked_at) rfl
      exact ⟨⟨fd, D, FunD.bindsN D fun _ _ _ _ _ _ us hl => match us, hl with | [_, _, _], _ => rfl⟩, He.glo_ok X G (fact_of c.d 97 rfl)⟩
    d_how_many_parts := by
      obtain ⟨fd, D⟩ := c.d.def_ 38 (d := dd_how_many_parts) rfl
      exact ⟨⟨fd, D, FunD.bindsN D fun _ _ _ _ _ _ us hl => match us, hl with | [_], _ => rfl⟩, He.glo_ok X G (fact_of c.d 98 rfl)⟩
    d_side_of := by
      obtain ⟨fd, D⟩ := c.d.def_ 39 (d := dd_side_of) rfl
      exact ⟨⟨fd, D, FunD.bindsN D fun _ _ _ _ _ _ us hl => match us, hl with | [_], _ => rfl⟩, He.glo_ok X G (fact_of c.d 99 rfl)⟩
    d_quarter_at := by
      obtain ⟨fd, D⟩ := c.d.def_ 40 (d := dd_quarter_at) rfl
      exact ⟨⟨fd, D, FunD.bindsN D fun _ _ _ _ _ _ us hl => match us, hl with | [_, _, _], _ => rfl⟩, He.glo_ok X G (fact_of c.d 100 rfl)⟩
    d_within := by
      obtain ⟨fd, D⟩ := c.d.def_ 41 (d := dd_within) rfl
      exact ⟨⟨fd, D, FunD.bindsN D fun _ _ _ _ _ _ us hl => match us, hl with | [_, _, _], _ => rfl⟩, He.glo_ok X G (fact_of c.d 101 rfl)⟩
    d_spot_of := by
      obtain ⟨fd, D⟩ := c.d.def_ 42 (d := dd_spot_of) rfl
      exact ⟨⟨fd, D, FunD.bindsN D fun _ _ _ _ _ _ us hl => match us, hl with | [_, _, _], _ => rfl⟩, He.glo_ok X G (fact_of c.d 102 rfl)⟩
    d_read_byte := by
      obtain ⟨fd, D⟩ := c.d.def_ 43 (d := dd_read_byte) rfl
      exact ⟨⟨fd, D, FunD.bindsN D fun _ _ _ _ _ _ us hl => match us, hl with | [_, _, _], _ => rfl⟩, He.glo_ok X G (fact_of c.d 103 rfl)⟩
    d_read_tinctures := by
      obtain ⟨fd, D⟩ := c.d.def_ 44 (d := dd_read_tinctures) rfl
      exact ⟨⟨fd, D, FunD.bindsN D fun _ _ _ _ _ _ us hl => match us, hl with | [_], _ => rfl⟩, He.glo_ok X G (fact_of c.d 104 rfl)⟩
    d_read_field := by
      obtain ⟨fd, D⟩ := c.d.def_ 45 (d := dd_read_field) rfl
      exact ⟨⟨fd, D, FunD.bindsN D fun _ _ _ _ _ _ us hl => match us, hl with | [_], _ => rfl⟩, He.glo_ok X G (fact_of c.d 105 rfl)⟩
    d_read_fill := by
      obtain ⟨fd, D⟩ := c.d.def_ 46 (d := dd_read_fill) rfl
      exact ⟨⟨fd, D, FunD.bindsN D fun _ _ _ _ _ _ us hl => match us, hl with | [_, _], _ => rfl⟩, He.glo_ok X G (fact_of c.d 106 rfl)⟩
    d_read_layer := by
      obtain ⟨fd, D⟩ := c.d.def_ 47 (d := dd_read_layer) rfl
      exact ⟨⟨fd, D, FunD.bindsN D fun _ _ _ _ _ _ us hl => match us, hl with | [_, _], _ => rfl⟩, He.glo_ok X G (fact_of c.d 107 rfl)⟩
    d_read_arms := by
      obtain ⟨fd, D⟩ := c.d.def_ 48 (d := dd_read_arms) rfl
      exact ⟨⟨fd, D, FunD.bindsN D fun _ _ _ _ _ _ us hl => match us, hl with | [_], _ => rfl⟩, He.glo_ok X G (fact_of c.d 108 rfl)⟩
    d_read_marked := by
      obtain ⟨fd, D⟩ := c.d.def_ 49 (d := dd_read_marked) rfl
      exact ⟨⟨fd, D, FunD.bindsN D fun _ _ _ _ _ _ us hl => match us, hl with | [_], _ => rfl⟩, He.glo_ok X G (fact_of c.d 109 rfl)⟩
    d_read_coat := by
      obtain ⟨fd, D⟩ := c.d.def_ 50 (d := dd_read_coat) rfl
      exact ⟨⟨fd, D, FunD.bindsN D fun _ _ _ _ _ _ us hl => match us, hl with | [_, _], _ => rfl⟩, He.glo_ok X G (fact_of c.d 110 rfl)⟩
    d_coat_of_bytes := by
      obtain ⟨fd, D⟩ := c.d.def_ 51 (d := dd_coat_of_bytes) rfl
      exact ⟨⟨fd, D, FunD.bindsN D fun _ _ _ _ _ _ us hl => match us, hl with | [_], _ => rfl⟩, He.glo_ok X G (fact_of c.d 111 rfl)⟩
    d_is_point := by
      obtain ⟨fd, D⟩ := c.d.def_ 52 (d := dd_is_point) rfl
      exact ⟨⟨fd, D, FunD.bindsN D fun _ _ _ _ _ _ us hl => match us, hl with | [_, _], _ => rfl⟩, He.glo_ok X G (fact_of c.d 112 rfl)⟩
    d_at := by
      obtain ⟨fd, D⟩ := c.d.def_ 53 (d := dd_at) rfl
      exact ⟨⟨fd, D, FunD.bindsN D fun _ _ _ _ _ _ us hl => match us, hl with | [_, _, _], _ => rfl⟩, He.glo_ok X G (fact_of c.d 113 rfl)⟩ }
end Hc
namespace Hc
open PySem PySem.Spec PyProof.Rows L2
def loose0 : List Str := ["WIDE", "HIGH", "off", "bend_of", "other_side", "bend_off", "is_above_bend", "is_parted", "bendy_number", "piece_number", "is_near_bend", "is_on_edge", "is_on_straight", "has_ordinary", "REACH", "ROWS", "Middle", "is_round", "is_mullet", "is_crossed", "is_tower", "is_wheel", "is_arrow", "has_charge", "part_of", "in_rows", "half_of", "middle_of", "middles_of", "has_group"]
def loose1 : List Str := ["PLAIN", "PARTED", "VARIED", "ORDINARY", "GROUP", "MARKED", "QUARTERLY", "IMPALED", "ARGENT", "MURREY", "BAND", "MOST_DEEP", "Layer", "Arms", "Coat", "Spot", "has_first", "tincture_of", "has_layer", "arms_at", "band_at", "marked_at", "how_many_parts", "side_of", "quarter_at", "within", "spot_of", "MOST_LAYERS", "MOST_MARKS", "NoCoat"]
def loose2 : List Str := ["Bytes", "read_byte", "read_tinctures", "read_field", "read_fill", "read_layer", "read_arms", "read_marked", "read_coat", "coat_of_bytes", "NO_COAT", "NO_POINT", "is_point"]
def loose : List Str := loose0 ++ loose1 ++ loose2
abbrev R : PySem.W.OpenSpec := PySem.Challenge.rw_heraldcoats_s02_at
abbrev qv : Program := PySem.W.view R.prog [78]
abbrev hk : PySem.W.Hook := hookY 5 fa fn tabs exb
def ob (s : PySem.W.SharedT) : AlY := obsYG 5 fa fn tabs exb (HandSHeadRun.getT s)
theorem ob_eq (s : PySem.W.SharedT) : ob s = hk.obs s.abs := obsYG_eq (HandSHeadRun.getT_eq s)
theorem run (w : World) (os : OsState) : (HandSHeadRun.endF (HandSHeadRun.stepQ (HandSHeadRun.denQ HandSHeadRun.tabQ) R.prog w) 6000 R.prog w os).map (fun s => (HandSHeadRun.looksF R.prog (PySem.W.boot_heap w.params) s.abs, HandSHeadRun.seenQ qv loose (importedModules R.prog.main.body) (fun s => PySem.W.xlAt qv [] s && PySem.W.recOk [] s) s.abs, ob s)) = some (true, PySem.W.openGood qv loose, hk.val w) := by
  kernel_rfl
theorem left : PySem.W.LeftO R.prog qv loose (fun s => PySem.W.xlAt qv [] s && PySem.W.recOk [] s) hk.obs hk.val (6000 + 600) true :=
  HandSHeadRun.left_one (M := 6000) (by kernel_rfl) (Nat.ble_eq_true_of_le (by omega)) (fun s => by kernel_rfl) (Nat.ble_eq_true_of_le (by omega)) fun w os => by
    have z := run w os
    have eo : ob = fun s => hk.obs s.abs := funext ob_eq
    rw [eo] at z
    simp only [HandSHeadRun.endQ_eq, HandSHeadRun.seenQ_eq]
    exact z
end Hc
namespace Hc
open PySem PySem.Spec PyProof.Rows L2
set_option hygiene false
local macro_rules | `(tactic| walk_at "hp") => `(tactic| first | assumption | exact Src.ob (by assumption) | exact Rdr.ob (by assumption) | exact upd_same)
local macro_rules | `(tactic| walk_at "sq") => `(tactic| first | assumption | exact Src.sq (by assumption) | exact Rdr.sq (by assumption) | exact SqL.of (by assumption) | exact SqL.of upd_same | exact SqT.of (by assumption) | exact SqT.of upd_same)
local macro_rules | `(tactic| walk_at "cl") => `(tactic| with_reducible first | exact T.c_Bytes | exact T.c_Coat | exact T.c_Arms | exact T.c_Layer | exact T.c_Token | exact T.c_Reader | exact T.c_Words)
local macro_rules | `(tactic| walk_at "na") => `(tactic| with_reducible first | exact T.n_Bytes_some | exact T.n_Bytes_at | exact T.n_Coat_kind | exact T.n_Coat_arms | exact T.n_Coat_canton | exact T.n_Coat_marks | exact T.n_Coat_coats | exact T.n_Arms_field | exact T.n_Arms_layers | exact T.n_Layer_kind | exact T.n_Layer_numbers | exact T.n_Layer_fill | exact T.n_Token_kind | exact T.n_Token_value | exact T.n_Token_place | exact T.n_Token_behind | exact T.n_Reader_some | exact T.n_Reader_at | exact T.n_Reader_end | exact T.n_Words_some | exact T.n_Words_at)
local macro_rules | `(tactic| walk_at "ai") => `(tactic| first | assumption | exact atI_nat (by assumption) | rfl)
local macro_rules | `(tactic| walk_at "rd1") => `(tactic| first
  | refine ⟨_, rfl, ?_⟩
  | refine ⟨rfl, ?_⟩
  | refine ⟨_, _, rfl, rfl, ?_⟩
  | refine ⟨_, _, _, _, _, rfl, (by walk_at "hp"), (by walk_at "cl"), (by walk_at "na"), (by rfl), ?_⟩
  | refine ⟨_, _, _, _, rfl, (by walk_at "hp"), (by walk_at "cl"), (by walk_at "na"), Nat.le_of_ble_eq_true rfl, ?_⟩
  | refine ⟨_, _, _, _, rfl, rfl, (by walk_at "sq"), (by walk_at "ai"), ?_⟩
  | refine ⟨_, _, rfl, (by first | exact Or.inl (by walk_at "sq") | exact Or.inr (by walk_at "sq")), ?_⟩
  | refine ⟨(by walk_at "ar"), ?_⟩)
local macro_rules | `(tactic| walk_at "ar") => `(tactic| first | exact (show CDiv _ _ from ⟨by decide, by decide⟩) | exact (show (0 : Int) < _ from by decide) | exact (show CMul _ _ from .inl ⟨by omega, by omega⟩) | exact (show CMul _ _ from .inr ⟨by omega, by omega⟩))
local macro_rules | `(tactic| walk_at "rd") => `(tactic| repeat walk_at "rd1")
local macro_rules | `(tactic| walk_at "fa") => `(tactic| first | exact ⟨_, rfl, (by omega), rfl⟩ | exact ⟨_, _, rfl, (by omega), rfl⟩ | exact ⟨_, _, _, rfl, (by omega), rfl⟩ | exact ⟨_, _, _, _, rfl, (by omega), rfl⟩ | exact ⟨_, _, _, _, _, rfl, (by omega), rfl⟩)
local macro_rules | `(tactic| walk_at "vr") => `(tactic| first
  | exact v_var (by rfl)
  | exact v_c
  | (apply v_i0 <;> walk_at "vr")
  | (apply v_i <;> first | walk_at "ar" | walk_at "vr")
  | (apply v_neg <;> walk_at "vr")
  | (apply v_eq <;> walk_at "vr")
  | (apply v_eqB <;> walk_at "vr")
  | (apply v_ne <;> walk_at "vr")
  | (apply v_neB <;> walk_at "vr")
  | (apply v_chain (g := fun _ _ => _) (g' := fun _ _ => _) <;> walk_at "vr")
  | (apply v_and <;> walk_at "vr")
  | (apply v_or <;> walk_at "vr")
  | (apply v_not <;> walk_at "vr")
  | (apply v_ifI <;> walk_at "vr")
  | (apply v_ifB <;> walk_at "vr")
  | (apply v_call <;> first | walk_at "fa" | walk_at "vr")
  | (apply v_abs <;> walk_at "vr")
  | (apply v_min <;> walk_at "vr")
  | exact va_nil
  | (apply va_cons <;> walk_at "vr")
  | (apply a_test <;> walk_at "vr")
  | (apply a_B <;> walk_at "vr")
  | (apply a_and <;> walk_at "vr")
  | (apply a_or <;> walk_at "vr")
  | (apply a_not <;> walk_at "vr"))
local macro_rules | `(tactic| walk_at "rs") => `(tactic| first
  | (apply r_ret; walk_at "vr")
  | (apply r_set; walk_at "vr"; walk_at "rs")
  | (apply r_ifI; walk_at "vr"; intro _; walk_at "rs"; intro _; walk_at "rs")
  | (apply r_ifB; walk_at "vr"; intro _; walk_at "rs"; intro _; walk_at "rs"))

section
variable {P : Program} {w : World} {K : PySem.W.Frag} {mg : Str → Option Value} {base : Heap}
theorem ok_NoCoat_init (T : Txt w K mg) : Exq P w K mg base 1 "NoCoat" p_NoCoat_init (spErr1 K "NoCoat") := by
  refine ⟨T.di_NoCoat.ok sc_NoCoat_init (fun vs H Q E h => by obtain ⟨_, _, rfl, _⟩ := h; rfl) ?_, T.x_NoCoat.T, T.x_NoCoat.iC, T.x_NoCoat.tI, T.g_NoCoat⟩
  intro cdv A outer s0 H vs Q E hr h
  refine ⟨_, (pss_one (ps_ost (pv 0) (pv 1))), ?_⟩
  try dsimp only [cxOf]
  obtain ⟨a, v, rfl, ha, k⟩ := h
  exact ⟨_, rfl, _, rfl, a, _, rfl, T.x_NoCoat.T, T.x_NoCoat.no _ (by simp), .inl ⟨ha, fun dx hd ne => k dx hd ne⟩⟩
theorem ok_read_byte (T : Txt w K mg) (q_NoCoat : Exq P w K mg base 1 "NoCoat" p_NoCoat_init (spErr1 K "NoCoat")) : Cal P w K mg base (L2.CX P w) 3 "read_byte" p_read_byte (spByte K) := by
  refine T.d_read_byte.cal sc_read_byte (fun vs H Q E h => by obtain ⟨_, _, _, _, _, _, rfl, _⟩ := h; rfl) ?_
  intro cdv A outer s0 H vs Q E hr h
  have nd := sc_read_byte.nd
  have tk := tkX (P := P) (w := w) (K := K) (mg := mg) (base := base) (N := n_read_byte) (q := "read_byte") (sc := defScope s_read_byte) (f := He.ga K "read_byte") (cdv := cdv) (A := A) (outer := outer) (s := s0) (H := H) (E := E)
  have pX := paX (P := P) (w := w) (K := K) (mg := mg) (base := base) (N := n_read_byte) (q := "read_byte") (sc := defScope s_read_byte) (f := He.ga K "read_byte") (cdv := cdv) (A := A) (outer := outer) (s := s0) (H := H) (E := E)
  have po := poX (CX := L2.CX P w) (P := P) (w := w) (K := K) (mg := mg) (base := base) (N := n_read_byte) (q := "read_byte") (sc := defScope s_read_byte) (f := He.ga K "read_byte") (cdv := cdv) (A := A) (outer := outer) (s := s0) (H := H) (E := E)
  have h_NoCoat : Room (2) _ := hr.mono (by omega)
  refine ⟨_, (pss_cons (ps_set (i := 3) nd rfl (Or.inl rfl) (pe_fld (pv 0) rfl))
      (pss_cons (ps_if (PW.pt (pw_or (pt_cmpR op_ge (pv 3) (pe_callB call_len_seq (by rfl) T.f_len PySem.boot_len (pa_cons (pe_fld (pv 0) rfl) pa_nil)) (nomark _)) (pw_or1 (pt_not (pt_chain op_le op_le (pv 1) (pe_ix ix_list (pe_fld (pv 0) rfl) (pv 3) (fun _ _ => rfl)) (pv 2)))))) (pss_one (ps_raise rfl tk (pmk_exq q_NoCoat (h_NoCoat) (by exact (pa_cons (pv 3) pa_nil))))) pss_nil)
      (pss_cons (ps_fld (pv 0) (pe_op op_add (pv 3) pe_int) rfl)
      (pss_one (ps_ret (pe_ix ix_list (pe_fld (pv 0) rfl) (pv 3) (fun _ _ => rfl))))))), ?_⟩
  try dsimp only [cxOf]
  clear h_NoCoat po pX tk nd
  obtain ⟨⟨lo, hi⟩, s, dx, cc, bs, k, rfl, _, S, R⟩ := h
  walk_at "rd"
  rw [List.length_map]
  have fail : Sh.numAt lo hi Sh.ANY k (bs.drop k) = .error k → tMkO (He.ga K "NoCoat") (spErr1 K "NoCoat") [] (tCons (tVar 3) tNil) [some (.ref s), some (.int lo), some (.int hi), some (.int k)] H (fun cls d H' => E cls d H') := fun e =>
    ⟨_, rfl, raise1 fun d H' sa _ hd => R.err k e d H' (.same sa) hd⟩
  refine iteB (fun c => fail ?_) fun c => ?_
  · have c' : bs.length ≤ k := by simpa using c
    rw [List.drop_eq_nil_of_le c']
    rfl
  · have c' : k < bs.length := by simpa using c
    have hb : (bs.map bv)[k]? = some (bv bs[k]) := by simp [c']
    have ed : bs.drop k = bs[k] :: bs.drop (k + 1) := List.drop_eq_getElem_cons c'
    have c5 : bs[k].toNat < 256 := bs[k].toNat_lt
    walk_at "rd"
    refine iteB (fun c1 => ?_) fun c1 => ?_
    · walk_at "rd"
      show if (!decide ((bs[k].toNat : Int) ≤ hi)) = true then _ else _
      refine iteB (fun c2 => fail ?_) fun c2 => ?_
      · rw [ed]
        exact num_no (.inr (.inl (by simp at c2; omega)))
      · have e := ed ▸ num_ok (p := k) (r := bs.drop (k + 1)) (x := Sh.ANY) (b := bs[k]) (lo := lo) (hi := hi) (by have z := of_decide_eq_true c1; omega) (by simp at c2; omega) (by unfold Sh.ANY; omega)
        walk_at "rd"
        have S1 := S.put (j := k + 1) (fs := putF "at" (.int ((k : Int) + 1)) (srcF cc k)) rfl (by omega)
        walk_at "rd"
        exact R.ok _ (k + 1) e _ _ Bt.refl.put S1 rfl
    · refine ⟨_, rfl, ?_⟩
      refine iteB (fun _ => fail ?_) fun c2 => (by cases c2)
      rw [ed]
      exact num_no (.inl (by have z := of_decide_eq_false c1; omega))
end
end Hc

namespace Hc
open PySem PySem.Spec PyProof.Rows L2
open Sh ShMarsh
set_option hygiene false
local macro_rules | `(tactic| walk_at "hp") => `(tactic| first | assumption | exact Src.ob (by assumption) | exact Rdr.ob (by assumption) | exact upd_same)
local macro_rules | `(tactic| walk_at "sq") => `(tactic| first | assumption | exact Src.sq (by assumption) | exact Rdr.sq (by assumption) | exact SqL.of (by assumption) | exact SqL.of upd_same | exact SqT.of (by assumption) | exact SqT.of upd_same)
local macro_rules | `(tactic| walk_at "cl") => `(tactic| with_reducible first | exact T.c_Bytes | exact T.c_Coat | exact T.c_Arms | exact T.c_Layer | exact T.c_Token | exact T.c_Reader | exact T.c_Words)
local macro_rules | `(tactic| walk_at "na") => `(tactic| with_reducible first | exact T.n_Bytes_some | exact T.n_Bytes_at | exact T.n_Coat_kind | exact T.n_Coat_arms | exact T.n_Coat_canton | exact T.n_Coat_marks | exact T.n_Coat_coats | exact T.n_Arms_field | exact T.n_Arms_layers | exact T.n_Layer_kind | exact T.n_Layer_numbers | exact T.n_Layer_fill | exact T.n_Token_kind | exact T.n_Token_value | exact T.n_Token_place | exact T.n_Token_behind | exact T.n_Reader_some | exact T.n_Reader_at | exact T.n_Reader_end | exact T.n_Words_some | exact T.n_Words_at)
local macro_rules | `(tactic| walk_at "ai") => `(tactic| first | assumption | exact atI_nat (by assumption) | rfl)
local macro_rules | `(tactic| walk_at "rd1") => `(tactic| first
  | refine ⟨_, rfl, ?_⟩
  | refine ⟨rfl, ?_⟩
  | refine ⟨_, _, rfl, rfl, ?_⟩
  | refine ⟨_, _, _, _, _, rfl, (by walk_at "hp"), (by walk_at "cl"), (by walk_at "na"), (by rfl), ?_⟩
  | refine ⟨_, _, _, _, rfl, (by walk_at "hp"), (by walk_at "cl"), (by walk_at "na"), Nat.le_of_ble_eq_true rfl, ?_⟩
  | refine ⟨_, _, _, _, rfl, rfl, (by walk_at "sq"), (by walk_at "ai"), ?_⟩
  | refine ⟨_, _, rfl, (by first | exact Or.inl (by walk_at "sq") | exact Or.inr (by walk_at "sq")), ?_⟩
  | refine ⟨(by walk_at "ar"), ?_⟩)
local macro_rules | `(tactic| walk_at "ar") => `(tactic| first | exact (show CDiv _ _ from ⟨by decide, by decide⟩) | exact (show (0 : Int) < _ from by decide) | exact (show CMul _ _ from .inl ⟨by omega, by omega⟩) | exact (show CMul _ _ from .inr ⟨by omega, by omega⟩))
local macro_rules | `(tactic| walk_at "rd") => `(tactic| repeat walk_at "rd1")
local macro_rules | `(tactic| walk_at "fa") => `(tactic| first | exact ⟨_, rfl, (by omega), rfl⟩ | exact ⟨_, _, rfl, (by omega), rfl⟩ | exact ⟨_, _, _, rfl, (by omega), rfl⟩ | exact ⟨_, _, _, _, rfl, (by omega), rfl⟩ | exact ⟨_, _, _, _, _, rfl, (by omega), rfl⟩)
local macro_rules | `(tactic| walk_at "vr") => `(tactic| first
  | exact v_var (by rfl)
  | exact v_c
  | (apply v_i0 <;> walk_at "vr")
  | (apply v_i <;> first | walk_at "ar" | walk_at "vr")
  | (apply v_neg <;> walk_at "vr")
  | (apply v_eq <;> walk_at "vr")
  | (apply v_eqB <;> walk_at "vr")
  | (apply v_ne <;> walk_at "vr")
  | (apply v_neB <;> walk_at "vr")
  | (apply v_chain (g := fun _ _ => _) (g' := fun _ _ => _) <;> walk_at "vr")
  | (apply v_and <;> walk_at "vr")
  | (apply v_or <;> walk_at "vr")
  | (apply v_not <;> walk_at "vr")
  | (apply v_ifI <;> walk_at "vr")
  | (apply v_ifB <;> walk_at "vr")
  | (apply v_call <;> first | walk_at "fa" | walk_at "vr")
  | (apply v_abs <;> walk_at "vr")
  | (apply v_min <;> walk_at "vr")
  | exact va_nil
  | (apply va_cons <;> walk_at "vr")
  | (apply a_test <;> walk_at "vr")
  | (apply a_B <;> walk_at "vr")
  | (apply a_and <;> walk_at "vr")
  | (apply a_or <;> walk_at "vr")
  | (apply a_not <;> walk_at "vr"))
local macro_rules | `(tactic| walk_at "rs") => `(tactic| first
  | (apply r_ret; walk_at "vr")
  | (apply r_set; walk_at "vr"; walk_at "rs")
  | (apply r_ifI; walk_at "vr"; intro _; walk_at "rs"; intro _; walk_at "rs")
  | (apply r_ifB; walk_at "vr"; intro _; walk_at "rs"; intro _; walk_at "rs"))

section
variable {P : Program} {w : World} {K : PySem.W.Frag} {mg : Str → Option Value} {base : Heap}
theorem ok_Bytes_init (T : Txt w K mg) : Mak P w K mg base 1 "Bytes" p_Bytes_init (spI_Bytes K "Bytes") := by
  refine ⟨T.di_Bytes.ok sc_Bytes_init (fun vs H Q E h => by obtain ⟨_, _, _, rfl, _⟩ := h; rfl) ?_, T.m_Bytes, T.g_Bytes⟩
  intro cdv A outer s0 H vs Q E hr h
  refine ⟨_, (pss_cons (ps_fld (pv 0) (pv 1) rfl)
      (pss_one (ps_fld (pv 0) pe_int rfl))), ?_⟩
  try dsimp only [cxOf]
  obtain ⟨x, dx, c, rfl, hx, k⟩ := h
  walk_at "rd"
  exact k _ (Bt.refl.put.put) upd_same
theorem ok_Layer_init (T : Txt w K mg) : Mak P w K mg base 1 "Layer" p_Layer_init (spI_Layer K) := by
  refine ⟨T.di_Layer.ok sc_Layer_init (fun vs H Q E h => by obtain ⟨_, _, _, _, _, rfl, _⟩ := h; rfl) ?_, T.m_Layer, T.g_Layer⟩
  intro cdv A outer s0 H vs Q E hr h
  refine ⟨_, (pss_cons (ps_fld (pv 0) (pv 1) rfl)
      (pss_cons (ps_fld (pv 0) (pv 2) rfl)
      (pss_one (ps_fld (pv 0) (pv 3) rfl)))), ?_⟩
  try dsimp only [cxOf]
  obtain ⟨x, dx, a, b, c, rfl, hx, k⟩ := h
  walk_at "rd"
  exact k _ (Bt.refl.put.put.put) upd_same
theorem ok_Arms_init (T : Txt w K mg) : Mak P w K mg base 1 "Arms" p_Arms_init (spI_Arms K) := by
  refine ⟨T.di_Arms.ok sc_Arms_init (fun vs H Q E h => by obtain ⟨_, _, _, rfl, _⟩ := h; rfl) ?_, T.m_Arms, T.g_Arms⟩
  intro cdv A outer s0 H vs Q E hr h
  refine ⟨_, (pss_cons (ps_fld (pv 0) (pv 1) rfl)
      (pss_one (ps_fld (pv 0) (pe_lst pa_nil) rfl))), ?_⟩
  try dsimp only [cxOf]
  obtain ⟨x, dx, f, rfl, hx, k⟩ := h
  walk_at "rd"
  refine ⟨Nat.zero_le _, fun l hl => ?_⟩
  have nl : l ≠ x := fun z => by
    rw [z, upd_same] at hl
    cases hl
  have hx1 : upd (upd H x (.ins (He.ga K "Arms") dx [("field", f)])) l (.lst []) x = some (.ins (He.ga K "Arms") dx [("field", f)]) := by
    rw [upd_ne (Ne.symm nl)]
    exact upd_same
  walk_at "rd"
  refine k _ l ((Bt.refl.put.new hl).put) (by rw [upd_ne nl] at hl; exact hl) upd_same ?_
  rw [upd_ne nl]
  exact upd_same
theorem ok_Coat_init (T : Txt w K mg) : Mak P w K mg base 1 "Coat" p_Coat_init (spI_Coat K) := by
  refine ⟨T.di_Coat.ok sc_Coat_init (fun vs H Q E h => by obtain ⟨_, _, _, rfl, _⟩ := h; rfl) ?_, T.m_Coat, T.g_Coat⟩
  intro cdv A outer s0 H vs Q E hr h
  refine ⟨_, (pss_cons (ps_fld (pv 0) (pv 1) rfl)
      (pss_cons (ps_fld (pv 0) pe_non rfl)
      (pss_cons (ps_fld (pv 0) pe_non rfl)
      (pss_cons (ps_fld (pv 0) (pe_lst pa_nil) rfl)
      (pss_one (ps_fld (pv 0) (pe_lst pa_nil) rfl)))))), ?_⟩
  try dsimp only [cxOf]
  obtain ⟨x, dx, n, rfl, hx, k⟩ := h
  walk_at "rd"
  refine ⟨Nat.zero_le _, fun l hl => ?_⟩
  have nl : l ≠ x := fun z => by
    rw [z, upd_same] at hl
    cases hl
  have hl0 : H l = none := by
    rw [upd_ne nl, upd_ne nl, upd_ne nl] at hl
    exact hl
  refine ⟨_, rfl, x, _, dx, [("kind", iv n), ("arms", .non), ("canton", .non)], rfl, (upd_ne (Ne.symm nl)).trans upd_same, T.c_Coat, T.n_Coat_marks, Nat.le_of_ble_eq_true rfl, ?_⟩
  refine ⟨Nat.zero_le _, fun l2 hl2 => ?_⟩
  have nl2 : l2 ≠ x := fun z => by
    rw [z, upd_same] at hl2
    cases hl2
  have nl3 : l2 ≠ l := fun z => by
    rw [z, upd_ne nl, upd_same] at hl2
    cases hl2
  have hl4 : H l2 = none := by
    rw [upd_ne nl2, upd_ne nl3, upd_ne nl2, upd_ne nl2, upd_ne nl2] at hl2
    exact hl2
  refine ⟨_, rfl, x, _, dx, [("kind", iv n), ("arms", .non), ("canton", .non), ("marks", .ref l)], rfl, (upd_ne (Ne.symm nl2)).trans upd_same, T.c_Coat, T.n_Coat_coats, Nat.le_of_ble_eq_true rfl, ?_⟩
  refine k _ l l2 (((Bt.refl.put.put.put.new hl).put.new hl2).put) hl0 hl4 (Ne.symm nl3) upd_same ?_ ?_
  · rw [upd_ne nl, upd_ne (Ne.symm nl3), upd_ne nl]
    exact upd_same
  · rw [upd_ne nl2]
    exact upd_same
theorem ok_read_tinctures (T : Txt w K mg) (u_read_byte : Cal P w K mg base (L2.CX P w) 3 "read_byte" p_read_byte (spByte K)) (q_NoCoat : Exq P w K mg base 1 "NoCoat" p_NoCoat_init (spErr1 K "NoCoat")) : Cal P w K mg base (L2.CX P w) 4 "read_tinctures" p_read_tinctures (spTwo K) := by
  refine T.d_read_tinctures.cal sc_read_tinctures (fun vs H Q E h => by obtain ⟨_, _, _, _, _, _, rfl, _⟩ := h; rfl) ?_
  intro cdv A outer s0 H vs Q E hr h
  have nd := sc_read_tinctures.nd
  have tk := tkX (P := P) (w := w) (K := K) (mg := mg) (base := base) (N := n_read_tinctures) (q := "read_tinctures") (sc := defScope s_read_tinctures) (f := He.ga K "read_tinctures") (cdv := cdv) (A := A) (outer := outer) (s := s0) (H := H) (E := E)
  have pX := paX (P := P) (w := w) (K := K) (mg := mg) (base := base) (N := n_read_tinctures) (q := "read_tinctures") (sc := defScope s_read_tinctures) (f := He.ga K "read_tinctures") (cdv := cdv) (A := A) (outer := outer) (s := s0) (H := H) (E := E)
  have po := poX (CX := L2.CX P w) (P := P) (w := w) (K := K) (mg := mg) (base := base) (N := n_read_tinctures) (q := "read_tinctures") (sc := defScope s_read_tinctures) (f := He.ga K "read_tinctures") (cdv := cdv) (A := A) (outer := outer) (s := s0) (H := H) (E := E)
  have h_read_byte : Room (3) _ := hr.mono (by omega)
  have h_NoCoat : Room (2) _ := hr.mono (by omega)
  refine ⟨_, (pss_cons (ps_set (i := 1) nd rfl (Or.inl rfl) (pe_cal u_read_byte (h_read_byte) pX (pa_cons (pv 0) (pa_cons pe_int (pa_cons pe_int pa_nil)))))
      (pss_cons (ps_set (i := 2) nd rfl (Or.inl rfl) (pe_cal u_read_byte (h_read_byte) pX (pa_cons (pv 0) (pa_cons pe_int (pa_cons pe_int pa_nil)))))
      (pss_cons (ps_if (pt_cmpR op_eq (pv 1) (pv 2) (nomark _)) (pss_one (ps_raise rfl tk (pmk_exq q_NoCoat (h_NoCoat) (by exact (pa_cons (pe_op op_sub (pe_fld (pv 0) rfl) pe_int) pa_nil))))) pss_nil)
      (pss_one (ps_ret (pe_tup (pa_cons (pv 1) (pa_cons (pv 2) pa_nil)))))))), ?_⟩
  try dsimp only [cxOf]
  clear h_NoCoat h_read_byte po pX tk nd
  obtain ⟨_, s, dx, cc, bs, k, rfl, _, S, R⟩ := h
  walk_at "rd"
  refine ⟨(0, 8), s, dx, cc, bs, k, rfl, trivial, S, ⟨fun e he d H1 b1 hd => R.err e (by simp only [Sh.twoAt, he]) d H1 b1 hd, fun n p he v H1 b1 S1 is => ?_⟩⟩
  obtain rfl : v = .int (n : Int) := is
  obtain ⟨ep, _, hn, _, _⟩ := num_is he
  walk_at "rd"
  refine ⟨(0, 8), s, dx, cc, bs, p, rfl, trivial, S1, ⟨fun e he2 d H2 b2 hd => R.err e (by simp only [Sh.twoAt, he, num_but_err he2 (by decide)]) d H2 (b1.trans b2) hd, fun m p2 he2 v H2 b2 S2 is => ?_⟩⟩
  obtain rfl : v = .int (m : Int) := is
  obtain ⟨ep2, _, hm, _, _⟩ := num_is he2
  have B2 := b1.trans b2
  walk_at "rd"
  refine iteB (fun c => ?_) fun c => ?_
  · have c' : n = m := by
      have z := of_decide_eq_true c
      injection z with z
      omega
    walk_at "rd"
    refine raise1 fun d H3 sa _ hd => ?_
    refine R.err p (by simp only [Sh.twoAt, he, num_but he2, if_pos c'.symm]) d H3 (B2.trans (.same sa)) ?_
    rw [hd, ep2]
    show some (HO.xd [(("place" : Str), V.int (((p + 1 : Nat) : Int) - 1))]) = _
    rw [show (((p + 1 : Nat) : Int) - 1) = (p : Int) by omega]
  · have c' : ¬ n = m := fun z => by
      rw [z] at c
      simp at c
    walk_at "rd"
    refine ⟨by show 2 ≤ sizeLine; decide, fun q hq => ?_⟩
    refine R.ok (n, m) p2 (by simp only [Sh.twoAt, he, num_but he2, if_neg (Ne.symm c')]) _ _ (B2.new hq) (S2.bt (Bt.refl.new hq) ((upd_ne (ne_of_none S2.ob hq)).trans S2.ob) S2.le) ⟨q, rfl, dn_of (B2.none S2.ob q hq) upd_same⟩
theorem ok_read_field (T : Txt w K mg) (u_read_byte : Cal P w K mg base (L2.CX P w) 3 "read_byte" p_read_byte (spByte K)) (u_read_tinctures : Cal P w K mg base (L2.CX P w) 4 "read_tinctures" p_read_tinctures (spTwo K)) : Cal P w K mg base (L2.CX P w) 5 "read_field" p_read_field (spField K) := by
  refine T.d_read_field.cal sc_read_field (fun vs H Q E h => by obtain ⟨_, _, _, _, _, _, rfl, _⟩ := h; rfl) ?_
  intro cdv A outer s0 H vs Q E hr h
  have nd := sc_read_field.nd
  have tk := tkX (P := P) (w := w) (K := K) (mg := mg) (base := base) (N := n_read_field) (q := "read_field") (sc := defScope s_read_field) (f := He.ga K "read_field") (cdv := cdv) (A := A) (outer := outer) (s := s0) (H := H) (E := E)
  have pX := paX (P := P) (w := w) (K := K) (mg := mg) (base := base) (N := n_read_field) (q := "read_field") (sc := defScope s_read_field) (f := He.ga K "read_field") (cdv := cdv) (A := A) (outer := outer) (s := s0) (H := H) (E := E)
  have po := poX (CX := L2.CX P w) (P := P) (w := w) (K := K) (mg := mg) (base := base) (N := n_read_field) (q := "read_field") (sc := defScope s_read_field) (f := He.ga K "read_field") (cdv := cdv) (A := A) (outer := outer) (s := s0) (H := H) (E := E)
  have h_read_byte : Room (3) _ := hr.mono (by omega)
  have h_read_tinctures : Room (4) _ := hr.mono (by omega)
  refine ⟨_, (pss_cons (ps_set (i := 1) nd rfl (Or.inl rfl) (pe_cal u_read_byte (h_read_byte) pX (pa_cons (pv 0) (pa_cons (pe_gi T.i_PLAIN) (pa_cons (pe_gi T.i_VARIED) pa_nil)))))
      (pss_cons (ps_if (pt_cmpR op_eq (pv 1) (pe_gi T.i_PLAIN) (nomark _)) (pss_one (ps_ret (pe_tup (pa_cons (pe_gi T.i_PLAIN) (pa_cons (pe_cal u_read_byte (h_read_byte) pX (pa_cons (pv 0) (pa_cons pe_int (pa_cons pe_int pa_nil)))) pa_nil))))) pss_nil)
      (pss_cons (ps_if (pt_cmpR op_eq (pv 1) (pe_gi T.i_PARTED) (nomark _)) (pss_cons (ps_set (i := 2) nd rfl (Or.inl rfl) (pe_cal u_read_byte (h_read_byte) pX (pa_cons (pv 0) (pa_cons pe_int (pa_cons pe_int pa_nil)))))
      (pss_one (ps_ret (pe_op op_catA (pe_tup (pa_cons (pe_gi T.i_PARTED) (pa_cons (pv 2) (pa_cons (pe_cal u_read_byte (h_read_byte) pX (pa_cons (pv 0) (pa_cons pe_int (pa_cons pe_int pa_nil)))) pa_nil)))) (pe_cal u_read_tinctures (h_read_tinctures) pX (pa_cons (pv 0) pa_nil)))))) pss_nil)
      (pss_cons (ps_set (i := 2) nd rfl (Or.inl rfl) (pe_cal u_read_byte (h_read_byte) pX (pa_cons (pv 0) (pa_cons pe_int (pa_cons pe_int pa_nil)))))
      (pss_cons (ps_set (i := 3) nd rfl (Or.inl rfl) (pe_cal u_read_byte (h_read_byte) pX (pa_cons (pv 0) (pa_cons pe_int (pa_cons pe_int pa_nil)))))
      (pss_one (ps_ret (pe_op op_catA (pe_tup (pa_cons (pe_gi T.i_VARIED) (pa_cons (pv 2) (pa_cons (pv 3) (pa_cons (pe_cal u_read_byte (h_read_byte) pX (pa_cons (pv 0) (pa_cons pe_int (pa_cons (pe_ifExp (pt_cmpR op_ge (pv 2) pe_int (nomark _)) pe_int pe_int) pa_nil)))) pa_nil))))) (pe_cal u_read_tinctures (h_read_tinctures) pX (pa_cons (pv 0) pa_nil)))))))))), ?_⟩
  try dsimp only [cxOf]
  clear h_read_tinctures h_read_byte po pX tk nd
  obtain ⟨_, s, dx, cc, bs, k, rfl, _, S, R⟩ := h
  walk_at "rd"
  refine ⟨(0, 2), s, dx, cc, bs, k, rfl, trivial, S, ⟨fun e he d H1 b1 hd => R.err e (by simp only [Sh.fieldAt, he]) d H1 b1 hd, fun n p he v H1 b1 S1 is => ?_⟩⟩
  obtain rfl : v = .int (n : Int) := is
  obtain ⟨_, _, hn, _, _⟩ := num_is he
  walk_at "rd"
  refine iteB (fun c => ?_) fun c => ?_
  · have c' : n = 0 := by
      have z := of_decide_eq_true c
      injection z with z
      omega
    subst c'
    walk_at "rd"
    refine ⟨(0, 8), s, dx, cc, bs, p, rfl, trivial, S1, ⟨fun e he2 d H2 b2 hd => R.err e (by simp only [Sh.fieldAt, he, he2, if_true]) d H2 (b1.trans b2) hd, fun m p2 he2 v H2 b2 S2 is => ?_⟩⟩
    obtain rfl : v = .int (m : Int) := is
    have B2 := b1.trans b2
    walk_at "rd"
    refine ⟨by show 2 ≤ sizeLine; decide, fun q hq => ?_⟩
    exact R.ok (.plain m) p2 (by simp only [Sh.fieldAt, he, he2, if_true]) _ _ (B2.new hq) (S2.bt (Bt.refl.new hq) ((upd_ne (ne_of_none S2.ob hq)).trans S2.ob) S2.le) ⟨q, rfl, dn_of (B2.none S2.ob q hq) upd_same⟩
  · have c' : ¬ n = 0 := fun z => by
      rw [z] at c
      simp at c
    walk_at "rd"
    refine iteB (fun c1 => ?_) fun c1 => ?_
    · have c1' : n = 1 := by
        have z := of_decide_eq_true c1
        injection z with z
        omega
      subst c1'
      walk_at "rd"
      refine ⟨(0, 7), s, dx, cc, bs, p, rfl, trivial, S1, ⟨fun e he2 d H2 b2 hd => R.err e (by simp [Sh.fieldAt, he, he2]) d H2 (b1.trans b2) hd, fun m p2 he2 v H2 b2 S2 is => ?_⟩⟩
      obtain rfl : v = .int (m : Int) := is
      have B2 := b1.trans b2
      walk_at "rd"
      refine ⟨(0, 5), s, dx, cc, bs, p2, rfl, trivial, S2, ⟨fun e he3 d H3 b3 hd => R.err e (by simp [Sh.fieldAt, he, he2, he3]) d H3 (B2.trans b3) hd, fun l p3 he3 v H3 b3 S3 is => ?_⟩⟩
      obtain rfl : v = .int (l : Int) := is
      have B3 := B2.trans b3
      refine ⟨by show 3 ≤ sizeLine; decide, fun q hq => ?_⟩
      have S3' := S3.bt (Bt.refl.new (o := .tup [.int 1, .int (m : Int), .int (l : Int)]) hq) ((upd_ne (ne_of_none S3.ob hq)).trans S3.ob) S3.le
      walk_at "rd"
      refine ⟨(), s, dx, cc, bs, p3, rfl, trivial, S3', ⟨fun e he4 d H4 b4 hd => R.err e (by simp [Sh.fieldAt, he, he2, he3, he4]) d H4 ((B3.new hq).trans b4) hd, fun t p4 he4 v H4 b4 S4 is => ?_⟩⟩
      obtain ⟨q2, rfl, hq2⟩ := is
      have hq2' := (of_dn hq2).2
      have hq' : H4 q = some (.tup [.int 1, .int (m : Int), .int (l : Int)]) := b4 _ _ (ne_of upd_same S3'.ob (by intro z; cases z)) upd_same
      have B4 := (B3.new hq).trans b4
      refine ⟨q, q2, _, _, rfl, rfl, SqT.of hq', SqT.of hq2', by show 5 ≤ sizeLine; decide, fun z => (by cases z), fun _ z => (by cases z), fun _ _ r hr => ?_⟩
      exact R.ok (.parted m l t.1 t.2) p4 (by simp [Sh.fieldAt, he, he2, he3, he4]) _ _ (B4.new hr) (S4.bt (Bt.refl.new hr) ((upd_ne (ne_of_none S4.ob hr)).trans S4.ob) S4.le) ⟨r, rfl, dn_of (B4.none S4.ob r hr) upd_same⟩
    · have c1' : ¬ n = 1 := fun z => by
        rw [z] at c1
        simp at c1
      walk_at "rd"
      refine ⟨(0, 6), s, dx, cc, bs, p, rfl, trivial, S1, ⟨fun e he2 d H2 b2 hd => R.err e (by simp [Sh.fieldAt, he, he2, c', c1']) d H2 (b1.trans b2) hd, fun m p2 he2 v H2 b2 S2 is => ?_⟩⟩
      obtain rfl : v = .int (m : Int) := is
      have B2 := b1.trans b2
      walk_at "rd"
      refine ⟨(2, 24), s, dx, cc, bs, p2, rfl, trivial, S2, ⟨fun e he3 d H3 b3 hd => R.err e (by simp [Sh.fieldAt, he, he2, he3, c', c1']) d H3 (B2.trans b3) hd, fun nn p3 he3 v H3 b3 S3 is => ?_⟩⟩
      obtain rfl : v = .int (nn : Int) := is
      have B3 := B2.trans b3
      walk_at "rd"
      have key : ∀ (hi : Nat), hi = (if 5 ≤ m then 0 else 5) → spByte K ([.ref s, .int 0, .int (hi : Int)] ++ []) H3 (fun x H1 => tNil [some (.ref s), some (.int (n : Int)), some (.int (m : Int)), some (.int (nn : Int))] H1 fun xs H2 => (fun xs H1 => xs.length ≤ sizeLine ∧ ∀ p, H1 p = none → (fun x H1 => tCall (spTwo K) [] E (tCons (tVar 0) tNil) [some (.ref s), some (.int (n : Int)), some (.int (m : Int)), some (.int (nn : Int))] H1 fun y H2 => rCatA K x y H2 Q) (.ref p) (upd H1 p (.tup xs))) (.int 2 :: .int (m : Int) :: .int (nn : Int) :: x :: xs) H2) E := by
        intro hi ehi
        refine ⟨(0, hi), s, dx, cc, bs, p3, rfl, trivial, S3, ⟨fun e he4 d H4 b4 hd => R.err e (by rw [ehi] at he4; simp [Sh.fieldAt, he, he2, he3, he4, c', c1']) d H4 (B3.trans b4) hd, fun l p4 he4 v H4 b4 S4 is => ?_⟩⟩
        rw [ehi] at he4
        obtain rfl : v = .int (l : Int) := is
        have B4 := B3.trans b4
        refine ⟨by show 4 ≤ sizeLine; decide, fun q hq => ?_⟩
        have S4' := S4.bt (Bt.refl.new (o := .tup [.int 2, .int (m : Int), .int (nn : Int), .int (l : Int)]) hq) ((upd_ne (ne_of_none S4.ob hq)).trans S4.ob) S4.le
        walk_at "rd"
        refine ⟨(), s, dx, cc, bs, p4, rfl, trivial, S4', ⟨fun e he5 d H5 b5 hd => R.err e (by simp [Sh.fieldAt, he, he2, he3, he4, he5, c', c1']) d H5 ((B4.new hq).trans b5) hd, fun t p5 he5 v H5 b5 S5 is => ?_⟩⟩
        obtain ⟨q2, rfl, hq2⟩ := is
        have hq2' := (of_dn hq2).2
        have hq' : H5 q = some (.tup [.int 2, .int (m : Int), .int (nn : Int), .int (l : Int)]) := b5 _ _ (ne_of upd_same S4'.ob (by intro z; cases z)) upd_same
        have B5 := (B4.new hq).trans b5
        refine ⟨q, q2, _, _, rfl, rfl, SqT.of hq', SqT.of hq2', by show 6 ≤ sizeLine; decide, fun z => (by cases z), fun _ z => (by cases z), fun _ _ r hr => ?_⟩
        exact R.ok (.varied m nn l t.1 t.2) p5 (by simp [Sh.fieldAt, he, he2, he3, he4, he5, c', c1']) _ _ (B5.new hr) (S5.bt (Bt.refl.new hr) ((upd_ne (ne_of_none S5.ob hr)).trans S5.ob) S5.le) ⟨r, rfl, dn_of (B5.none S5.ob r hr) upd_same⟩
      refine iteB (fun c2 => ?_) fun c2 => ?_
      · exact key 0 (by have z := of_decide_eq_true c2; rw [if_pos (by omega)])
      · exact key 5 (by have z := of_decide_eq_false c2; rw [if_neg (by omega)])
end
end Hc

namespace Hc
open PySem PySem.Spec PyProof.Rows L2
open Sh ShMarsh
set_option hygiene false
local macro_rules | `(tactic| walk_at "hp") => `(tactic| first | assumption | exact Src.ob (by assumption) | exact Rdr.ob (by assumption) | exact upd_same)
local macro_rules | `(tactic| walk_at "sq") => `(tactic| first | assumption | exact Src.sq (by assumption) | exact Rdr.sq (by assumption) | exact SqL.of (by assumption) | exact SqL.of upd_same | exact SqT.of (by assumption) | exact SqT.of upd_same)
local macro_rules | `(tactic| walk_at "cl") => `(tactic| with_reducible first | exact T.c_Bytes | exact T.c_Coat | exact T.c_Arms | exact T.c_Layer | exact T.c_Token | exact T.c_Reader | exact T.c_Words)
local macro_rules | `(tactic| walk_at "na") => `(tactic| with_reducible first | exact T.n_Bytes_some | exact T.n_Bytes_at | exact T.n_Coat_kind | exact T.n_Coat_arms | exact T.n_Coat_canton | exact T.n_Coat_marks | exact T.n_Coat_coats | exact T.n_Arms_field | exact T.n_Arms_layers | exact T.n_Layer_kind | exact T.n_Layer_numbers | exact T.n_Layer_fill | exact T.n_Token_kind | exact T.n_Token_value | exact T.n_Token_place | exact T.n_Token_behind | exact T.n_Reader_some | exact T.n_Reader_at | exact T.n_Reader_end | exact T.n_Words_some | exact T.n_Words_at)
local macro_rules | `(tactic| walk_at "ai") => `(tactic| first | assumption | exact atI_nat (by assumption) | rfl)
local macro_rules | `(tactic| walk_at "rd1") => `(tactic| first
  | refine ⟨_, rfl, ?_⟩
  | refine ⟨rfl, ?_⟩
  | refine ⟨_, _, rfl, rfl, ?_⟩
  | refine ⟨_, _, _, _, _, rfl, (by walk_at "hp"), (by walk_at "cl"), (by walk_at "na"), (by rfl), ?_⟩
  | refine ⟨_, _, _, _, rfl, (by walk_at "hp"), (by walk_at "cl"), (by walk_at "na"), Nat.le_of_ble_eq_true rfl, ?_⟩
  | refine ⟨_, _, _, _, rfl, rfl, (by walk_at "sq"), (by walk_at "ai"), ?_⟩
  | refine ⟨_, _, rfl, (by first | exact Or.inl (by walk_at "sq") | exact Or.inr (by walk_at "sq")), ?_⟩
  | refine ⟨(by walk_at "ar"), ?_⟩)
local macro_rules | `(tactic| walk_at "ar") => `(tactic| first | exact (show CDiv _ _ from ⟨by decide, by decide⟩) | exact (show (0 : Int) < _ from by decide) | exact (show CMul _ _ from .inl ⟨by omega, by omega⟩) | exact (show CMul _ _ from .inr ⟨by omega, by omega⟩))
local macro_rules | `(tactic| walk_at "rd") => `(tactic| repeat walk_at "rd1")
local macro_rules | `(tactic| walk_at "fa") => `(tactic| first | exact ⟨_, rfl, (by omega), rfl⟩ | exact ⟨_, _, rfl, (by omega), rfl⟩ | exact ⟨_, _, _, rfl, (by omega), rfl⟩ | exact ⟨_, _, _, _, rfl, (by omega), rfl⟩ | exact ⟨_, _, _, _, _, rfl, (by omega), rfl⟩)
local macro_rules | `(tactic| walk_at "vr") => `(tactic| first
  | exact v_var (by rfl)
  | exact v_c
  | (apply v_i0 <;> walk_at "vr")
  | (apply v_i <;> first | walk_at "ar" | walk_at "vr")
  | (apply v_neg <;> walk_at "vr")
  | (apply v_eq <;> walk_at "vr")
  | (apply v_eqB <;> walk_at "vr")
  | (apply v_ne <;> walk_at "vr")
  | (apply v_neB <;> walk_at "vr")
  | (apply v_chain (g := fun _ _ => _) (g' := fun _ _ => _) <;> walk_at "vr")
  | (apply v_and <;> walk_at "vr")
  | (apply v_or <;> walk_at "vr")
  | (apply v_not <;> walk_at "vr")
  | (apply v_ifI <;> walk_at "vr")
  | (apply v_ifB <;> walk_at "vr")
  | (apply v_call <;> first | walk_at "fa" | walk_at "vr")
  | (apply v_abs <;> walk_at "vr")
  | (apply v_min <;> walk_at "vr")
  | exact va_nil
  | (apply va_cons <;> walk_at "vr")
  | (apply a_test <;> walk_at "vr")
  | (apply a_B <;> walk_at "vr")
  | (apply a_and <;> walk_at "vr")
  | (apply a_or <;> walk_at "vr")
  | (apply a_not <;> walk_at "vr"))
local macro_rules | `(tactic| walk_at "rs") => `(tactic| first
  | (apply r_ret; walk_at "vr")
  | (apply r_set; walk_at "vr"; walk_at "rs")
  | (apply r_ifI; walk_at "vr"; intro _; walk_at "rs"; intro _; walk_at "rs")
  | (apply r_ifB; walk_at "vr"; intro _; walk_at "rs"; intro _; walk_at "rs"))

section
variable {P : Program} {w : World} {K : PySem.W.Frag} {mg : Str → Option Value} {base : Heap}
theorem fieldV_head (f : Field) : ∃ n r, fieldV f = iv n :: r ∧ (n = 0 ↔ f.two.isSome = false) := by
  cases f with
  | plain t => exact ⟨0, _, rfl, by simp [Field.two]⟩
  | parted d l a b => exact ⟨1, _, rfl, by simp [Field.two]⟩
  | varied v n l a b => exact ⟨2, _, rfl, by simp [Field.two]⟩
theorem ok_read_fill (T : Txt w K mg) (u_read_byte : Cal P w K mg base (L2.CX P w) 3 "read_byte" p_read_byte (spByte K)) (u_read_field : Cal P w K mg base (L2.CX P w) 5 "read_field" p_read_field (spField K)) : Cal P w K mg base (L2.CX P w) 6 "read_fill" p_read_fill (spFill K) := by
  refine T.d_read_fill.cal sc_read_fill (fun vs H Q E h => by obtain ⟨_, _, _, _, _, _, rfl, _⟩ := h; rfl) ?_
  intro cdv A outer s0 H vs Q E hr h
  have nd := sc_read_fill.nd
  have tk := tkX (P := P) (w := w) (K := K) (mg := mg) (base := base) (N := n_read_fill) (q := "read_fill") (sc := defScope s_read_fill) (f := He.ga K "read_fill") (cdv := cdv) (A := A) (outer := outer) (s := s0) (H := H) (E := E)
  have pX := paX (P := P) (w := w) (K := K) (mg := mg) (base := base) (N := n_read_fill) (q := "read_fill") (sc := defScope s_read_fill) (f := He.ga K "read_fill") (cdv := cdv) (A := A) (outer := outer) (s := s0) (H := H) (E := E)
  have po := poX (CX := L2.CX P w) (P := P) (w := w) (K := K) (mg := mg) (base := base) (N := n_read_fill) (q := "read_fill") (sc := defScope s_read_fill) (f := He.ga K "read_fill") (cdv := cdv) (A := A) (outer := outer) (s := s0) (H := H) (E := E)
  have h_read_byte : Room (3) _ := hr.mono (by omega)
  have h_read_field : Room (5) _ := hr.mono (by omega)
  refine ⟨_, (pss_cons (ps_if (pt_cmpR op_eq (pe_cal u_read_byte (h_read_byte) pX (pa_cons (pv 0) (pa_cons pe_int (pa_cons (pe_callTy call_int1 (by rfl) T.f_int (by decide +kernel) (pa_cons (pe_cmpR op_ne (pe_ix ix_tup (pe_fld (pv 1) rfl) pe_int (fun _ _ => rfl)) (pe_gi T.i_PLAIN) (nomark _)) pa_nil)) pa_nil)))) pe_int (nomark _)) (pss_one (ps_ret pe_non)) pss_nil)
      (pss_one (ps_ret (pe_cal u_read_field (h_read_field) pX (pa_cons (pv 0) pa_nil))))), ?_⟩
  try dsimp only [cxOf]
  clear h_read_field h_read_byte po pX tk nd
  obtain ⟨⟨ar, f⟩, s, dx, cc, bs, k, rfl, pre, S, R⟩ := h
  obtain ⟨dxa, ff, la, hA, hF⟩ := id pre
  obtain ⟨n0, r0, e0, n0z⟩ := fieldV_head f
  dsimp only at e0 n0z hA hF
  rw [e0] at hF
  walk_at "rd"
  refine ⟨ff, _, _, _, rfl, rfl, SqT.of hF, atI_nat (j := 0) rfl, ?_⟩
  walk_at "rd"
  refine .inr ⟨_, rfl, ?_⟩
  have key : ∀ hi : Nat, hi = (if f.two.isSome = true then 1 else 0) → ∀ Q', (∀ m p2 v H2, Sh.numAt 0 (if f.two.isSome = true then 1 else 0) ANY k (bs.drop k) = .ok (m, p2, bs.drop p2) → Bt s H H2 → Src K (He.ga K "Bytes") H2 s dx cc bs p2 → v = V.int (m : Int) → Q' v H2) → spByte K ([.ref s, .int 0, .int (hi : Int)] ++ []) H Q' E := by
    intro hi ehi Q' hq
    refine ⟨(0, hi), s, dx, cc, bs, k, rfl, trivial, S, ⟨fun e he d H1 b1 hd => R.err e (by rw [ehi] at he; simp only [Sh.fillAt, he]) d H1 b1 hd, fun m p he v H1 b1 S1 is => ?_⟩⟩
    rw [ehi] at he
    exact hq m p v H1 he b1 S1 is
  have ev : (if (!decide (iv n0 = V.int 0)) = true then (1 : Int) else 0) = (((if f.two.isSome = true then 1 else 0) : Nat) : Int) := by
    by_cases z : n0 = 0
    · rw [n0z.mp z, z]
      rfl
    · have z2 : f.two.isSome = true := by
        cases q : f.two.isSome with
        | true => rfl
        | false => exact absurd (n0z.mpr q) z
      have z3 : decide (iv n0 = V.int 0) = false := decide_eq_false fun y => by
        have y' : V.int (n0 : Int) = V.int 0 := y
        injection y' with y'
        omega
      rw [z2, z3]
      rfl
  rw [ev]
  refine key _ rfl _ fun m p v H1 he b1 S1 ev => ?_
  subst ev
  walk_at "rd"
  refine iteB (fun c => ?_) fun c => ?_
  · have c' : m = 1 := by
      have z := of_decide_eq_true c
      injection z with z
      omega
    exact R.ok .counter p (by simp [Sh.fillAt, he, c']) _ _ b1 S1 rfl
  · have c' : ¬ m = 1 := fun z => by
      rw [z] at c
      simp at c
    walk_at "rd"
    refine ⟨(), s, dx, cc, bs, p, rfl, trivial, S1, ⟨fun e he2 d H2 b2 hd => R.err e (by simp [Sh.fillAt, he, he2, c']) d H2 (b1.trans b2) hd, fun g p2 he2 v H2 b2 S2 is => ?_⟩⟩
    exact R.ok (.solid g) p2 (by simp [Sh.fillAt, he, he2, c']) _ _ (b1.trans b2) S2 (IsField.up (dn_mono (fun a h => b1.none S1.ob a h) fun a o h q => q) is)
theorem ok_read_layer (T : Txt w K mg) (u_read_byte : Cal P w K mg base (L2.CX P w) 3 "read_byte" p_read_byte (spByte K)) (u_read_fill : Cal P w K mg base (L2.CX P w) 6 "read_fill" p_read_fill (spFill K)) (m_Layer : Mak P w K mg base 1 "Layer" p_Layer_init (spI_Layer K)) : Cal P w K mg base (L2.CX P w) 7 "read_layer" p_read_layer (spLayer K) := by
  refine T.d_read_layer.cal sc_read_layer (fun vs H Q E h => by obtain ⟨_, _, _, _, _, _, rfl, _⟩ := h; rfl) ?_
  intro cdv A outer s0 H vs Q E hr h
  have nd := sc_read_layer.nd
  have tk := tkX (P := P) (w := w) (K := K) (mg := mg) (base := base) (N := n_read_layer) (q := "read_layer") (sc := defScope s_read_layer) (f := He.ga K "read_layer") (cdv := cdv) (A := A) (outer := outer) (s := s0) (H := H) (E := E)
  have pX := paX (P := P) (w := w) (K := K) (mg := mg) (base := base) (N := n_read_layer) (q := "read_layer") (sc := defScope s_read_layer) (f := He.ga K "read_layer") (cdv := cdv) (A := A) (outer := outer) (s := s0) (H := H) (E := E)
  have po := poX (CX := L2.CX P w) (P := P) (w := w) (K := K) (mg := mg) (base := base) (N := n_read_layer) (q := "read_layer") (sc := defScope s_read_layer) (f := He.ga K "read_layer") (cdv := cdv) (A := A) (outer := outer) (s := s0) (H := H) (E := E)
  have h_read_byte : Room (3) _ := hr.mono (by omega)
  have h_read_fill : Room (6) _ := hr.mono (by omega)
  have h_Layer : Room (2) _ := hr.mono (by omega)
  refine ⟨_, (pss_cons (ps_set (i := 2) nd rfl (Or.inl rfl) (pe_cal u_read_byte (h_read_byte) pX (pa_cons (pv 0) (pa_cons (pe_gi T.i_ORDINARY) (pa_cons (pe_gi T.i_GROUP) pa_nil)))))
      (pss_cons (ps_if (pt_cmpR op_eq (pv 2) (pe_gi T.i_ORDINARY) (nomark _)) (pss_one (ps_set (i := 3) nd rfl (Or.inl rfl) (pe_lst (pa_cons (pe_cal u_read_byte (h_read_byte) pX (pa_cons (pv 0) (pa_cons pe_int (pa_cons pe_int pa_nil)))) (pa_cons (pe_cal u_read_byte (h_read_byte) pX (pa_cons (pv 0) (pa_cons pe_int (pa_cons pe_int pa_nil)))) pa_nil))))) (pss_cons (ps_set (i := 3) nd rfl (Or.inl rfl) (pe_lst (pa_cons (pe_cal u_read_byte (h_read_byte) pX (pa_cons (pv 0) (pa_cons pe_int (pa_cons pe_int pa_nil)))) (pa_cons (pe_cal u_read_byte (h_read_byte) pX (pa_cons (pv 0) (pa_cons pe_int (pa_cons pe_int pa_nil)))) (pa_cons (pe_cal u_read_byte (h_read_byte) pX (pa_cons (pv 0) (pa_cons pe_int (pa_cons pe_int pa_nil)))) pa_nil)))))
      (pss_one (ps_expr (pe_bm PySem.F.plainAttrs_list PySem.F.slot_list_append PySem.F.type_list_append mt_append (pv 3) (pa_cons (pe_cal u_read_byte (h_read_byte) pX (pa_cons (pv 0) (pa_cons pe_int (pa_cons pe_int pa_nil)))) pa_nil))))))
      (pss_one (ps_ret (pe_mak m_Layer (h_Layer) (pa_cons (pv 2) (pa_cons (pv 3) (pa_cons (pe_cal u_read_fill (h_read_fill) pX (pa_cons (pv 0) (pa_cons (pv 1) pa_nil))) pa_nil)))))))), ?_⟩
  try dsimp only [cxOf]
  clear h_Layer h_read_fill h_read_byte po pX tk nd
  obtain ⟨⟨ar, f⟩, s, dx, cc, bs, k, rfl, pre, S, R⟩ := h
  walk_at "rd"
  refine ⟨(0, 1), s, dx, cc, bs, k, rfl, trivial, S, ⟨fun e he d H1 b1 hd => R.err e (by simp only [Sh.layerAt, he]) d H1 b1 hd, fun n p he v H1 b1 S1 is => ?_⟩⟩
  obtain rfl : v = .int (n : Int) := is
  obtain ⟨_, _, hn, _, _⟩ := num_is he
  walk_at "rd"
  refine iteB (fun c => ?_) fun c => ?_
  · have c' : n = 0 := by
      have z := of_decide_eq_true c
      injection z with z
      omega
    subst c'
    walk_at "rd"
    refine ⟨(0, 12), s, dx, cc, bs, p, rfl, trivial, S1, ⟨fun e he2 d H2 b2 hd => R.err e (by simp [Sh.layerAt, he, he2]) d H2 (b1.trans b2) hd, fun o p2 he2 v H2 b2 S2 is => ?_⟩⟩
    obtain rfl : v = .int (o : Int) := is
    have B2 := b1.trans b2
    walk_at "rd"
    refine ⟨(0, 5), s, dx, cc, bs, p2, rfl, trivial, S2, ⟨fun e he3 d H3 b3 hd => R.err e (by simp [Sh.layerAt, he, he2, he3]) d H3 (B2.trans b3) hd, fun l p3 he3 v H3 b3 S3 is => ?_⟩⟩
    obtain rfl : v = .int (l : Int) := is
    have B3 := B2.trans b3
    refine ⟨by show 2 ≤ sizeLine; decide, fun q hq => ?_⟩
    have S3' := S3.bt (Bt.refl.new (o := .lst [.int (o : Int), .int (l : Int)]) hq) ((upd_ne (ne_of_none S3.ob hq)).trans S3.ob) S3.le
    walk_at "rd"
    refine ⟨(ar, f), s, dx, cc, bs, p3, rfl, pre.bt S.ob (B3.new hq), S3', ⟨fun e he4 d H4 b4 hd => R.err e (by simp [Sh.layerAt, he, he2, he3, he4]) d H4 ((B3.new hq).trans b4) hd, fun fl p4 he4 v H4 b4 S4 is => ?_⟩⟩
    have hq' : H4 q = some (.lst [.int (o : Int), .int (l : Int)]) := b4 _ _ (ne_of upd_same S3'.ob (by intro z; cases z)) upd_same
    have B4 := (B3.new hq).trans b4
    refine mk_Layer fun x dx2 H5 nx sa hx => ?_
    have n4 := B4.none S4.ob
    refine R.ok (.ord o l fl) p4 (by simp [Sh.layerAt, he, he2, he3, he4]) _ _ (B4.trans (.same sa)) (S4.bt (.same sa) (sa _ _ S4.ob) S4.le) ⟨x, dx2, q, v, rfl, dn_of (n4 x nx) hx, dn_of (B3.none S3.ob q hq) (sa _ _ hq'), ?_⟩
    exact IsFill.up (dn_mono (fun a h => (B3.new hq).none S3'.ob a h) fun a o _ z => sa _ _ z) is
  · have c' : ¬ n = 0 := fun z => by
      rw [z] at c
      simp at c
    have c1' : n = 1 := by omega
    subst c1'
    walk_at "rd"
    refine ⟨(0, 15), s, dx, cc, bs, p, rfl, trivial, S1, ⟨fun e he2 d H2 b2 hd => R.err e (by simp [Sh.layerAt, he, he2]) d H2 (b1.trans b2) hd, fun o p2 he2 v H2 b2 S2 is => ?_⟩⟩
    obtain rfl : v = .int (o : Int) := is
    have B2 := b1.trans b2
    walk_at "rd"
    refine ⟨(1, 10), s, dx, cc, bs, p2, rfl, trivial, S2, ⟨fun e he3 d H3 b3 hd => R.err e (by simp [Sh.layerAt, he, he2, he3]) d H3 (B2.trans b3) hd, fun l p3 he3 v H3 b3 S3 is => ?_⟩⟩
    obtain rfl : v = .int (l : Int) := is
    have B3 := B2.trans b3
    walk_at "rd"
    refine ⟨(0, 6), s, dx, cc, bs, p3, rfl, trivial, S3, ⟨fun e he4 d H4 b4 hd => R.err e (by simp [Sh.layerAt, he, he2, he3, he4]) d H4 (B3.trans b4) hd, fun m p4 he4 v H4 b4 S4 is => ?_⟩⟩
    obtain rfl : v = .int (m : Int) := is
    have B4 := B3.trans b4
    refine ⟨by show 3 ≤ sizeLine; decide, fun q hq => ?_⟩
    have S4' := S4.bt (Bt.refl.new (o := .lst [.int (o : Int), .int (l : Int), .int (m : Int)]) hq) ((upd_ne (ne_of_none S4.ob hq)).trans S4.ob) S4.le
    refine ⟨_, rfl, .inl ⟨rfl, _, SqL.of upd_same⟩, ?_⟩
    walk_at "rd"
    refine ⟨(1, 4), s, dx, cc, bs, p4, rfl, trivial, S4', ⟨fun e he5 d H5 b5 hd => R.err e (by simp [Sh.layerAt, he, he2, he3, he4, he5]) d H5 ((B4.new hq).trans b5) hd, fun sz p5 he5 v H5 b5 S5 is => ?_⟩⟩
    obtain rfl : v = .int (sz : Int) := is
    have nq : q ≠ s := ne_of upd_same S4'.ob (by intro z; cases z)
    have hq' : H5 q = some (.lst [.int (o : Int), .int (l : Int), .int (m : Int)]) := b5 _ _ nq upd_same
    refine ⟨q, _, _, rfl, rfl, hq', by show 3 < sizeLine; decide, ?_⟩
    have B5 : Bt s H (upd H5 q (.lst ([.int (o : Int), .int (l : Int), .int (m : Int)] ++ [.int (sz : Int)]))) := fun b u n1 h => by
      have n2 : b ≠ q := ne_of_none (B4 b u n1 h) hq
      rw [upd_ne n2]
      exact b5 b u n1 (by rw [upd_ne n2]; exact B4 b u n1 h)
    have S5' : Src K (He.ga K "Bytes") (upd H5 q (.lst ([.int (o : Int), .int (l : Int), .int (m : Int)] ++ [.int (sz : Int)]))) s dx cc bs p5 := S.bt B5 ((upd_ne (Ne.symm nq)).trans S5.ob) S5.le
    walk_at "rd"
    refine ⟨(ar, f), s, dx, cc, bs, p5, rfl, pre.bt S.ob B5, S5', ⟨fun e he6 d H6 b6 hd => R.err e (by simp [Sh.layerAt, he, he2, he3, he4, he5, he6]) d H6 (B5.trans b6) hd, fun fl p6 he6 v H6 b6 S6 is => ?_⟩⟩
    have hq6 : H6 q = some (.lst [.int (o : Int), .int (l : Int), .int (m : Int), .int (sz : Int)]) := b6 _ _ nq upd_same
    have B6 := B5.trans b6
    refine mk_Layer fun x dx2 H7 nx sa hx => ?_
    have n6 := B6.none S6.ob
    refine R.ok (.group o l m sz fl) p6 (by simp [Sh.layerAt, he, he2, he3, he4, he5, he6]) _ _ (B6.trans (.same sa)) (S6.bt (.same sa) (sa _ _ S6.ob) S6.le) ⟨x, dx2, q, v, rfl, dn_of (n6 x nx) hx, dn_of (B4.none S4.ob q hq) (sa _ _ hq6), ?_⟩
    exact IsFill.up (dn_mono (fun a h => B5.none S5'.ob a h) fun a o _ z => sa _ _ z) is
end
end Hc

namespace Hc
open PySem PySem.Spec PyProof.Rows L2
open Sh ShMarsh
set_option hygiene false
local macro_rules | `(tactic| walk_at "hp") => `(tactic| first | assumption | exact Src.ob (by assumption) | exact Rdr.ob (by assumption) | exact upd_same)
local macro_rules | `(tactic| walk_at "sq") => `(tactic| first | assumption | exact Src.sq (by assumption) | exact Rdr.sq (by assumption) | exact SqL.of (by assumption) | exact SqL.of upd_same | exact SqT.of (by assumption) | exact SqT.of upd_same)
local macro_rules | `(tactic| walk_at "cl") => `(tactic| with_reducible first | exact T.c_Bytes | exact T.c_Coat | exact T.c_Arms | exact T.c_Layer | exact T.c_Token | exact T.c_Reader | exact T.c_Words)
local macro_rules | `(tactic| walk_at "na") => `(tactic| with_reducible first | exact T.n_Bytes_some | exact T.n_Bytes_at | exact T.n_Coat_kind | exact T.n_Coat_arms | exact T.n_Coat_canton | exact T.n_Coat_marks | exact T.n_Coat_coats | exact T.n_Arms_field | exact T.n_Arms_layers | exact T.n_Layer_kind | exact T.n_Layer_numbers | exact T.n_Layer_fill | exact T.n_Token_kind | exact T.n_Token_value | exact T.n_Token_place | exact T.n_Token_behind | exact T.n_Reader_some | exact T.n_Reader_at | exact T.n_Reader_end | exact T.n_Words_some | exact T.n_Words_at)
local macro_rules | `(tactic| walk_at "ai") => `(tactic| first | assumption | exact atI_nat (by assumption) | rfl)
local macro_rules | `(tactic| walk_at "rd1") => `(tactic| first
  | refine ⟨_, rfl, ?_⟩
  | refine ⟨rfl, ?_⟩
  | refine ⟨_, _, rfl, rfl, ?_⟩
  | refine ⟨_, _, _, _, _, rfl, (by walk_at "hp"), (by walk_at "cl"), (by walk_at "na"), (by rfl), ?_⟩
  | refine ⟨_, _, _, _, rfl, (by walk_at "hp"), (by walk_at "cl"), (by walk_at "na"), Nat.le_of_ble_eq_true rfl, ?_⟩
  | refine ⟨_, _, _, _, rfl, rfl, (by walk_at "sq"), (by walk_at "ai"), ?_⟩
  | refine ⟨_, _, rfl, (by first | exact Or.inl (by walk_at "sq") | exact Or.inr (by walk_at "sq")), ?_⟩
  | refine ⟨(by walk_at "ar"), ?_⟩)
local macro_rules | `(tactic| walk_at "ar") => `(tactic| first | exact (show CDiv _ _ from ⟨by decide, by decide⟩) | exact (show (0 : Int) < _ from by decide) | exact (show CMul _ _ from .inl ⟨by omega, by omega⟩) | exact (show CMul _ _ from .inr ⟨by omega, by omega⟩))
local macro_rules | `(tactic| walk_at "rd") => `(tactic| repeat walk_at "rd1")
local macro_rules | `(tactic| walk_at "fa") => `(tactic| first | exact ⟨_, rfl, (by omega), rfl⟩ | exact ⟨_, _, rfl, (by omega), rfl⟩ | exact ⟨_, _, _, rfl, (by omega), rfl⟩ | exact ⟨_, _, _, _, rfl, (by omega), rfl⟩ | exact ⟨_, _, _, _, _, rfl, (by omega), rfl⟩)
local macro_rules | `(tactic| walk_at "vr") => `(tactic| first
  | exact v_var (by rfl)
  | exact v_c
  | (apply v_i0 <;> walk_at "vr")
  | (apply v_i <;> first | walk_at "ar" | walk_at "vr")
  | (apply v_neg <;> walk_at "vr")
  | (apply v_eq <;> walk_at "vr")
  | (apply v_eqB <;> walk_at "vr")
  | (apply v_ne <;> walk_at "vr")
  | (apply v_neB <;> walk_at "vr")
  | (apply v_chain (g := fun _ _ => _) (g' := fun _ _ => _) <;> walk_at "vr")
  | (apply v_and <;> walk_at "vr")
  | (apply v_or <;> walk_at "vr")
  | (apply v_not <;> walk_at "vr")
  | (apply v_ifI <;> walk_at "vr")
  | (apply v_ifB <;> walk_at "vr")
  | (apply v_call <;> first | walk_at "fa" | walk_at "vr")
  | (apply v_abs <;> walk_at "vr")
  | (apply v_min <;> walk_at "vr")
  | exact va_nil
  | (apply va_cons <;> walk_at "vr")
  | (apply a_test <;> walk_at "vr")
  | (apply a_B <;> walk_at "vr")
  | (apply a_and <;> walk_at "vr")
  | (apply a_or <;> walk_at "vr")
  | (apply a_not <;> walk_at "vr"))
local macro_rules | `(tactic| walk_at "rs") => `(tactic| first
  | (apply r_ret; walk_at "vr")
  | (apply r_set; walk_at "vr"; walk_at "rs")
  | (apply r_ifI; walk_at "vr"; intro _; walk_at "rs"; intro _; walk_at "rs")
  | (apply r_ifB; walk_at "vr"; intro _; walk_at "rs"; intro _; walk_at "rs"))

section
variable {P : Program} {w : World} {K : PySem.W.Frag} {mg : Str → Option Value} {base : Heap}
theorem ok_read_arms (T : Txt w K mg) (u_read_field : Cal P w K mg base (L2.CX P w) 5 "read_field" p_read_field (spField K)) (m_Arms : Mak P w K mg base 1 "Arms" p_Arms_init (spI_Arms K)) (u_read_byte : Cal P w K mg base (L2.CX P w) 3 "read_byte" p_read_byte (spByte K)) (u_read_layer : Cal P w K mg base (L2.CX P w) 7 "read_layer" p_read_layer (spLayer K)) : Cal P w K mg base (L2.CX P w) 8 "read_arms" p_read_arms (spArms K) := by
  refine T.d_read_arms.cal sc_read_arms (fun vs H Q E h => by obtain ⟨_, _, _, _, _, _, rfl, _⟩ := h; rfl) ?_
  intro cdv A outer s0 H vs Q E hr h
  have nd := sc_read_arms.nd
  have tk := tkX (P := P) (w := w) (K := K) (mg := mg) (base := base) (N := n_read_arms) (q := "read_arms") (sc := defScope s_read_arms) (f := He.ga K "read_arms") (cdv := cdv) (A := A) (outer := outer) (s := s0) (H := H) (E := E)
  have pX := paX (P := P) (w := w) (K := K) (mg := mg) (base := base) (N := n_read_arms) (q := "read_arms") (sc := defScope s_read_arms) (f := He.ga K "read_arms") (cdv := cdv) (A := A) (outer := outer) (s := s0) (H := H) (E := E)
  have po := poX (CX := L2.CX P w) (P := P) (w := w) (K := K) (mg := mg) (base := base) (N := n_read_arms) (q := "read_arms") (sc := defScope s_read_arms) (f := He.ga K "read_arms") (cdv := cdv) (A := A) (outer := outer) (s := s0) (H := H) (E := E)
  have h_read_field : Room (5) _ := hr.mono (by omega)
  have h_Arms : Room (2) _ := hr.mono (by omega)
  have h_read_byte : Room (3) _ := hr.mono (by omega)
  have h_read_layer : Room (7) _ := hr.mono (by omega)
  refine ⟨_, (pss_cons (ps_set (i := 1) nd rfl (Or.inl rfl) (pe_mak m_Arms (h_Arms) (pa_cons (pe_cal u_read_field (h_read_field) pX (pa_cons (pv 0) pa_nil)) pa_nil)))
      (pss_cons (ps_for po rfl (pi_range1 rfl T.f_range (pa_cons (pe_cal u_read_byte (h_read_byte) pX (pa_cons (pv 0) (pa_cons pe_int (pa_cons (pe_gi T.i_MOST_LAYERS) pa_nil)))) pa_nil)) (pg_name (i := 2) nd rfl (Or.inl rfl))
      (pss_one (ps_expr (pe_bm PySem.F.plainAttrs_list PySem.F.slot_list_append PySem.F.type_list_append mt_append (pe_fld (pv 1) rfl) (pa_cons (pe_cal u_read_layer (h_read_layer) pX (pa_cons (pv 0) (pa_cons (pv 1) pa_nil))) pa_nil)))))
      (pss_one (ps_ret (pv 1))))), ?_⟩
  try dsimp only [cxOf]
  clear h_read_layer h_read_byte h_Arms h_read_field po pX tk nd
  obtain ⟨_, s, dx, cc, bs, k, rfl, _, S, R⟩ := h
  walk_at "rd"
  refine ⟨(), s, dx, cc, bs, k, rfl, trivial, S, ⟨fun e he d H1 b1 hd => R.err e (by simp only [armsFrom, he]) d H1 b1 hd, fun f p he fv H1 b1 S1 isF => ?_⟩⟩
  refine mk_Arms fun x dxa l H2 nx nl sa hx hl => ?_
  have n1 := b1.none S1.ob
  have B2 : Bt s H H2 := b1.trans (.same sa)
  have S2 := S1.bt (.same sa) (sa _ _ S1.ob) S1.le
  have xs : x ≠ s := fun z => by rw [z, S1.ob] at nx; cases nx
  have lsn : l ≠ s := fun z => by rw [z, S1.ob] at nl; cases nl
  have xl : x ≠ l := ne_of hx hl (by intro z; cases z)
  walk_at "rd"
  refine ⟨(0, 8), s, dx, cc, bs, p, rfl, trivial, S2, ⟨fun e he2 d H3 b3 hd => R.err e (by simp only [armsFrom, he]; rw [show numAt 0 MOST ANY p (bs.drop p) = .error e from he2]) d H3 (B2.trans b3) hd, fun n p2 he2 v H3 b3 S3 is => ?_⟩⟩
  obtain rfl : v = .int (n : Int) := is
  obtain ⟨_, _, hn, _, _⟩ := num_is he2
  dsimp only at hn
  have he2' : numAt 0 MOST ANY p (bs.drop p) = .ok (n, p2, bs.drop p2) := he2
  refine ⟨n, rfl, by omega, by omega, ?_⟩
  refine for_range (lo := 0) (n := (n : Int).toNat) (fun i σ H' => ∃ (v3 : Option V) (vs : List V) (ls : List Layer) (q : Nat), σ = [some (.ref s), some (.ref x), v3] ∧ Bt2 s l H2 H' ∧ Src K (He.ga K "Bytes") H' s dx cc bs q ∧ H' l = some (.lst vs) ∧
    Paired (IsLayer K (Dn H2 H')) vs ls ∧ ls.length = i ∧ goesOn (layersFrom f n p2 (bs.drop p2)) (layersFrom f (n - i) q (bs.drop q)) ls) ?_ ?_ ?_
  · exact ⟨none, [], [], p2, rfl, .of b3, S3, b3 _ _ lsn hl, .nil, rfl, .start⟩
  · rintro i σ H3' hi ⟨v3, vs, ls, q, rfl, B3, S3', hl3, P3, len3, go3⟩
    have hx3 : H3' x = some (.ins (He.ga K "Arms") dxa (armF fv l)) := B3 _ _ xs xl hx
    have hi' : i < n := by omega
    have en : n - i = (n - (i + 1)) + 1 := by omega
    rw [en] at go3
    walk_at "rd"
    refine ⟨.inl ⟨rfl, _, SqL.of hl3⟩, ?_⟩
    obtain ⟨ff, rfl, hff⟩ := isF
    have hff1 := (of_dn hff).2
    have hff3 : H3' ff = some (.tup (fieldV f)) := B3 _ _ (ne_of hff1 S1.ob (by intro z; cases z)) (ne_of_none hff1 nl) (sa _ _ hff1)
    walk_at "rd"
    refine ⟨(x, f), s, dx, cc, bs, q, rfl, ⟨dxa, ff, l, hx3, hff3⟩, S3', ⟨fun e he4 d H4 b4 hd => R.err e ?_ d H4 (Bt2.drop b1 nl ((Bt2.of (.same sa)).trans (B3.trans (.of b4)))) hd, fun y p4 he4 v H4 b4 S4 is => ?_⟩⟩
    · have z := go3.err (e := e) (by simp only [layersFrom, he4])
      simp only [armsFrom, he, he2', z]
    · refine ⟨l, vs, _, rfl, rfl, b4 _ _ lsn hl3, ?_, ?_⟩
      · have z := Paired.length P3
        have z2 : vs.length ≤ 8 := by omega
        exact Nat.lt_of_le_of_lt z2 (by decide)
      · have BB : Bt2 s l H3' (upd H4 l (.lst (vs ++ [v]))) := (Bt2.of b4).put
        refine ⟨_, vs ++ [v], ls ++ [y], p4, rfl, B3.trans BB, S.bt (Bt2.drop b1 nl ((Bt2.of (.same sa)).trans (B3.trans BB))) ((upd_ne (Ne.symm lsn)).trans S4.ob) S4.le, upd_same, ?_, by simp [len3],
          go3.turn (fun e h => by simp only [layersFrom, he4, h]) fun r h => by simp only [layersFrom, he4, h]⟩
        refine Paired.snoc (Paired.up P3 fun _ _ z => IsLayer.up (BB.dn S2.ob hl) z) (IsLayer.up (dn_mono (B3.none S3'.ob hl3) fun a o n h => ?_) is)
        rw [upd_ne (fun z => by rw [z, hl3] at n; cases n)]
        exact h
  · rintro σ H3' ⟨v3, vs, ls, q, rfl, B3, S3', hl3, P3, len3, go3⟩
    have hx3 : H3' x = some (.ins (He.ga K "Arms") dxa (armF fv l)) := B3 _ _ xs xl hx
    have e0 : n - (n : Int).toNat = 0 := by omega
    rw [e0] at go3
    have z := go3.ok (p := q) (b := bs.drop q) rfl
    refine ⟨_, rfl, ?_⟩
    refine R.ok ⟨f, ls⟩ q (by simp only [armsFrom, he, he2', z]) (.ref x) H3' (Bt2.drop b1 nl ((Bt2.of (.same sa)).trans B3)) S3' ⟨x, dxa, l, fv, vs, rfl, dn_of (n1 x nx) hx3, ?_, dn_of (n1 l nl) hl3, ?_⟩
    · refine IsField.up (dn_mono (fun _ h => h) fun a o n h => B3 a o (fun z => ?_) (ne_of_none h nl) (sa _ _ h)) isF
      rw [z, S.ob] at n
      cases n
    · exact Paired.up P3 fun _ _ z => IsLayer.up (dn_mono (fun a h => n1 a (sa.free h)) fun a o _ h => h) z
end
end Hc

namespace Hc
open PySem PySem.Spec PyProof.Rows L2
open Sh ShMarsh
set_option hygiene false
local macro_rules | `(tactic| walk_at "hp") => `(tactic| first | assumption | exact Src.ob (by assumption) | exact Rdr.ob (by assumption) | exact upd_same)
local macro_rules | `(tactic| walk_at "sq") => `(tactic| first | assumption | exact Src.sq (by assumption) | exact Rdr.sq (by assumption) | exact SqL.of (by assumption) | exact SqL.of upd_same | exact SqT.of (by assumption) | exact SqT.of upd_same)
local macro_rules | `(tactic| walk_at "cl") => `(tactic| with_reducible first | exact T.c_Bytes | exact T.c_Coat | exact T.c_Arms | exact T.c_Layer | exact T.c_Token | exact T.c_Reader | exact T.c_Words)
local macro_rules | `(tactic| walk_at "na") => `(tactic| with_reducible first | exact T.n_Bytes_some | exact T.n_Bytes_at | exact T.n_Coat_kind | exact T.n_Coat_arms | exact T.n_Coat_canton | exact T.n_Coat_marks | exact T.n_Coat_coats | exact T.n_Arms_field | exact T.n_Arms_layers | exact T.n_Layer_kind | exact T.n_Layer_numbers | exact T.n_Layer_fill | exact T.n_Token_kind | exact T.n_Token_value | exact T.n_Token_place | exact T.n_Token_behind | exact T.n_Reader_some | exact T.n_Reader_at | exact T.n_Reader_end | exact T.n_Words_some | exact T.n_Words_at)
local macro_rules | `(tactic| walk_at "ai") => `(tactic| first | assumption | exact atI_nat (by assumption) | rfl)
local macro_rules | `(tactic| walk_at "rd1") => `(tactic| first
  | refine ⟨_, rfl, ?_⟩
  | refine ⟨rfl, ?_⟩
  | refine ⟨_, _, rfl, rfl, ?_⟩
  | refine ⟨_, _, _, _, _, rfl, (by walk_at "hp"), (by walk_at "cl"), (by walk_at "na"), (by rfl), ?_⟩
  | refine ⟨_, _, _, _, rfl, (by walk_at "hp"), (by walk_at "cl"), (by walk_at "na"), Nat.le_of_ble_eq_true rfl, ?_⟩
  | refine ⟨_, _, _, _, rfl, rfl, (by walk_at "sq"), (by walk_at "ai"), ?_⟩
  | refine ⟨_, _, rfl, (by first | exact Or.inl (by walk_at "sq") | exact Or.inr (by walk_at "sq")), ?_⟩
  | refine ⟨(by walk_at "ar"), ?_⟩)
local macro_rules | `(tactic| walk_at "ar") => `(tactic| first | exact (show CDiv _ _ from ⟨by decide, by decide⟩) | exact (show (0 : Int) < _ from by decide) | exact (show CMul _ _ from .inl ⟨by omega, by omega⟩) | exact (show CMul _ _ from .inr ⟨by omega, by omega⟩))
local macro_rules | `(tactic| walk_at "rd") => `(tactic| repeat walk_at "rd1")
local macro_rules | `(tactic| walk_at "fa") => `(tactic| first | exact ⟨_, rfl, (by omega), rfl⟩ | exact ⟨_, _, rfl, (by omega), rfl⟩ | exact ⟨_, _, _, rfl, (by omega), rfl⟩ | exact ⟨_, _, _, _, rfl, (by omega), rfl⟩ | exact ⟨_, _, _, _, _, rfl, (by omega), rfl⟩)
local macro_rules | `(tactic| walk_at "vr") => `(tactic| first
  | exact v_var (by rfl)
  | exact v_c
  | (apply v_i0 <;> walk_at "vr")
  | (apply v_i <;> first | walk_at "ar" | walk_at "vr")
  | (apply v_neg <;> walk_at "vr")
  | (apply v_eq <;> walk_at "vr")
  | (apply v_eqB <;> walk_at "vr")
  | (apply v_ne <;> walk_at "vr")
  | (apply v_neB <;> walk_at "vr")
  | (apply v_chain (g := fun _ _ => _) (g' := fun _ _ => _) <;> walk_at "vr")
  | (apply v_and <;> walk_at "vr")
  | (apply v_or <;> walk_at "vr")
  | (apply v_not <;> walk_at "vr")
  | (apply v_ifI <;> walk_at "vr")
  | (apply v_ifB <;> walk_at "vr")
  | (apply v_call <;> first | walk_at "fa" | walk_at "vr")
  | (apply v_abs <;> walk_at "vr")
  | (apply v_min <;> walk_at "vr")
  | exact va_nil
  | (apply va_cons <;> walk_at "vr")
  | (apply a_test <;> walk_at "vr")
  | (apply a_B <;> walk_at "vr")
  | (apply a_and <;> walk_at "vr")
  | (apply a_or <;> walk_at "vr")
  | (apply a_not <;> walk_at "vr"))
local macro_rules | `(tactic| walk_at "rs") => `(tactic| first
  | (apply r_ret; walk_at "vr")
  | (apply r_set; walk_at "vr"; walk_at "rs")
  | (apply r_ifI; walk_at "vr"; intro _; walk_at "rs"; intro _; walk_at "rs")
  | (apply r_ifB; walk_at "vr"; intro _; walk_at "rs"; intro _; walk_at "rs"))

section
variable {P : Program} {w : World} {K : PySem.W.Frag} {mg : Str → Option Value} {base : Heap}
theorem ok_read_marked (T : Txt w K mg) (m_Coat : Mak P w K mg base 1 "Coat" p_Coat_init (spI_Coat K)) (u_read_arms : Cal P w K mg base (L2.CX P w) 8 "read_arms" p_read_arms (spArms K)) (u_read_byte : Cal P w K mg base (L2.CX P w) 3 "read_byte" p_read_byte (spByte K)) : Cal P w K mg base (L2.CX P w) 9 "read_marked" p_read_marked (spMarked K) := by
  refine T.d_read_marked.cal sc_read_marked (fun vs H Q E h => by obtain ⟨_, _, _, _, _, _, rfl, _⟩ := h; rfl) ?_
  intro cdv A outer s0 H vs Q E hr h
  have nd := sc_read_marked.nd
  have tk := tkX (P := P) (w := w) (K := K) (mg := mg) (base := base) (N := n_read_marked) (q := "read_marked") (sc := defScope s_read_marked) (f := He.ga K "read_marked") (cdv := cdv) (A := A) (outer := outer) (s := s0) (H := H) (E := E)
  have pX := paX (P := P) (w := w) (K := K) (mg := mg) (base := base) (N := n_read_marked) (q := "read_marked") (sc := defScope s_read_marked) (f := He.ga K "read_marked") (cdv := cdv) (A := A) (outer := outer) (s := s0) (H := H) (E := E)
  have po := poX (CX := L2.CX P w) (P := P) (w := w) (K := K) (mg := mg) (base := base) (N := n_read_marked) (q := "read_marked") (sc := defScope s_read_marked) (f := He.ga K "read_marked") (cdv := cdv) (A := A) (outer := outer) (s := s0) (H := H) (E := E)
  have h_Coat : Room (2) _ := hr.mono (by omega)
  have h_read_arms : Room (8) _ := hr.mono (by omega)
  have h_read_byte : Room (3) _ := hr.mono (by omega)
  refine ⟨_, (pss_cons (ps_set (i := 1) nd rfl (Or.inl rfl) (pe_mak m_Coat (h_Coat) (pa_cons (pe_gi T.i_MARKED) pa_nil)))
      (pss_cons (ps_fld (pv 1) (pe_cal u_read_arms (h_read_arms) pX (pa_cons (pv 0) pa_nil)) rfl)
      (Evl.pss_cut (ps_if (pt_cmpR op_eq (pe_cal u_read_byte (h_read_byte) pX (pa_cons (pv 0) (pa_cons pe_int (pa_cons pe_int pa_nil)))) pe_int (nomark _)) (pss_one (ps_fld (pv 1) (pe_cal u_read_arms (h_read_arms) pX (pa_cons (pv 0) pa_nil)) rfl)) pss_nil)
      (pss_cons (ps_for po rfl (pi_range1 rfl T.f_range (pa_cons (pe_cal u_read_byte (h_read_byte) pX (pa_cons (pv 0) (pa_cons pe_int (pa_cons (pe_gi T.i_MOST_MARKS) pa_nil)))) pa_nil)) (pg_name (i := 2) nd rfl (Or.inl rfl))
      (pss_cons (ps_set (i := 3) nd rfl (Or.inl rfl) (pe_cal u_read_byte (h_read_byte) pX (pa_cons (pv 0) (pa_cons pe_int (pa_cons pe_int pa_nil)))))
      (pss_one (ps_expr (pe_bm PySem.F.plainAttrs_list PySem.F.slot_list_append PySem.F.type_list_append mt_append (pe_fld (pv 1) rfl) (pa_cons (pe_tup (pa_cons (pv 3) (pa_cons (pe_cal u_read_byte (h_read_byte) pX (pa_cons (pv 0) (pa_cons pe_int (pa_cons pe_int pa_nil)))) pa_nil))) pa_nil))))))
      (pss_one (ps_ret (pv 1))))))), ?_⟩
  try dsimp only [cxOf]
  clear h_read_byte h_read_arms h_Coat po pX tk nd
  obtain ⟨_, s, dx, cc, bs, k, rfl, _, S, R⟩ := h
  walk_at "rd"
  refine mk_Coat (n := 0) fun x dxc ml cl H1 nx nm nc mc sa hx hm hc => ?_
  have xs : x ≠ s := fun z => by rw [z, S.ob] at nx; cases nx
  have ms' : ml ≠ s := fun z => by rw [z, S.ob] at nm; cases nm
  have cs : cl ≠ s := fun z => by rw [z, S.ob] at nc; cases nc
  have xm : x ≠ ml := ne_of hx hm (by intro z; cases z)
  have xc : x ≠ cl := ne_of hx hc (by intro z; cases z)
  have S1 := S.bt (.same sa) (sa _ _ S.ob) S.le
  have drop : ∀ {H'}, BtM [s, x, ml] H1 H' → Bt s H H' := fun {H'} e => BtM.drop (Bt.refl (H := H)) (fun m hm => by
    rcases List.mem_cons.mp hm with q | hm
    · exact .inl q
    rcases List.mem_cons.mp hm with q | hm
    · exact .inr (q ▸ nx)
    rcases List.mem_cons.mp hm with q | hm
    · exact .inr (q ▸ nm)
    · cases hm) ((BtM.same sa).trans e)
  have G1 : ∀ m ∈ [s, x, ml], H1 m ≠ none := fun m hm' => by
    rcases List.mem_cons.mp hm' with q | hm'
    · rw [q, S1.ob]; simp
    rcases List.mem_cons.mp hm' with q | hm'
    · rw [q, hx]; simp
    rcases List.mem_cons.mp hm' with q | hm'
    · rw [q, hm]; simp
    · cases hm'
  walk_at "rd"
  refine ⟨(), s, dx, cc, bs, k, rfl, trivial, S1, ⟨fun e he d H2 b2 hd => R.err e (by simp only [markedFrom, he]) d H2 ((Bt.same sa).trans b2) hd, fun am p he av H2 b2 S2 isA => ?_⟩⟩
  have hx2 : H2 x = some (.ins (He.ga K "Coat") dxc (coaF 0 .non .non ml cl)) := b2 _ _ xs hx
  walk_at "rd"
  have F3 : BtM [s, x, ml] H1 (upd H2 x (.ins (He.ga K "Coat") dxc (coaF 0 av .non ml cl))) := (BtM.of b2 (by simp)).put (by simp)
  have hx3 : upd H2 x (.ins (He.ga K "Coat") dxc (coaF 0 av .non ml cl)) x = some (.ins (He.ga K "Coat") dxc (coaF 0 av .non ml cl)) := upd_same
  have hm3 : upd H2 x (.ins (He.ga K "Coat") dxc (coaF 0 av .non ml cl)) ml = some (.lst []) := (upd_ne (Ne.symm xm)).trans (b2 _ _ ms' hm)
  have S3 : Src K (He.ga K "Bytes") (upd H2 x (.ins (He.ga K "Coat") dxc (coaF 0 av .non ml cl))) s dx cc bs p := S.bt (drop F3) ((upd_ne (Ne.symm xs)).trans S2.ob) S2.le
  have A3 : IsArms K (Dn H1 (upd H2 x (.ins (He.ga K "Coat") dxc (coaF 0 av .non ml cl)))) av am := IsArms.up ((BtM.same (M := [s, x, ml]) (fun _ _ h => h)).put (by simp) |>.dn G1) isA
  show Evl.tCut _ _ _ _ (upd H2 x (.ins (He.ga K "Coat") dxc (coaF 0 av .non ml cl)))
  generalize upd H2 x (.ins (He.ga K "Coat") dxc (coaF 0 av .non ml cl)) = H3 at *
  refine ⟨fun σ H4 => σ = [some (.ref s), some (.ref x), none, none] ∧ ∃ (cv : V) (cant : Option Arms) (q : Nat), BtM [s, x, ml] H1 H4 ∧ Src K (He.ga K "Bytes") H4 s dx cc bs q ∧ H4 x = some (.ins (He.ga K "Coat") dxc (coaF 0 av cv ml cl)) ∧ H4 ml = some (.lst []) ∧
    IsArms K (Dn H1 H4) av am ∧ IsCant K (Dn H1 H4) cv cant ∧ (∀ e, numAt 0 MARKS ANY q (bs.drop q) = .error e → markedFrom k (bs.drop k) = .error e) ∧
    (∀ n p2 e, numAt 0 MARKS ANY q (bs.drop q) = .ok (n, p2, bs.drop p2) → marksFrom n p2 (bs.drop p2) = .error e → markedFrom k (bs.drop k) = .error e) ∧
    (∀ n p2 ms p3, numAt 0 MARKS ANY q (bs.drop q) = .ok (n, p2, bs.drop p2) → marksFrom n p2 (bs.drop p2) = .ok (ms, p3, bs.drop p3) → markedFrom k (bs.drop k) = .ok (⟨am, cant, ms⟩, p3, bs.drop p3)), ?_, ?_⟩
  · walk_at "rd"
    refine ⟨(0, 1), s, dx, cc, bs, p, rfl, trivial, S3, ⟨fun e he2 d H4 b4 hd => R.err e (by simp only [markedFrom, he]; rw [show numAt 0 1 ANY p (bs.drop p) = .error e from he2]) d H4 ((drop F3).trans b4) hd, fun n p2 he2 v H4 b4 S4 is => ?_⟩⟩
    obtain rfl : v = .int (n : Int) := is
    obtain ⟨_, _, hn, _, _⟩ := num_is he2
    have he2' : numAt 0 1 ANY p (bs.drop p) = .ok (n, p2, bs.drop p2) := he2
    have F4 : BtM [s, x, ml] H1 H4 := F3.trans (.of b4 (by simp))
    have hx4 : H4 x = some (.ins (He.ga K "Coat") dxc (coaF 0 av .non ml cl)) := b4 _ _ xs hx3
    have hm4 : H4 ml = some (.lst []) := b4 _ _ ms' hm3
    have A4 : IsArms K (Dn H1 H4) av am := IsArms.up ((BtM.of b4 (M := [s, x, ml]) (by simp)).dn G1) A3
    walk_at "rd"
    refine iteB (fun c => ?_) fun c => ?_
    · have c' : n = 1 := by
        have z := of_decide_eq_true c
        injection z with z
        omega
      subst c'
      walk_at "rd"
      refine ⟨(), s, dx, cc, bs, p2, rfl, trivial, S4, ⟨fun e he3 d H5 b5 hd => R.err e (by simp [markedFrom, he, he2', he3, Except.map]) d H5 ((drop F4).trans b5) hd, fun cm p3 he3 cv H5 b5 S5 isC => ?_⟩⟩
      have hx5 : H5 x = some (.ins (He.ga K "Coat") dxc (coaF 0 av .non ml cl)) := b5 _ _ xs hx4
      walk_at "rd"
      have F6 : BtM [s, x, ml] H1 (upd H5 x (.ins (He.ga K "Coat") dxc (coaF 0 av cv ml cl))) := (F4.trans (.of b5 (by simp))).put (by simp)
      have G56 : BtM [s, x, ml] H5 (upd H5 x (.ins (He.ga K "Coat") dxc (coaF 0 av cv ml cl))) := (BtM.same (fun _ _ h => h)).put (by simp)
      have G46 : BtM [s, x, ml] H4 (upd H5 x (.ins (He.ga K "Coat") dxc (coaF 0 av cv ml cl))) := (BtM.of b5 (by simp)).put (by simp)
      refine ⟨cv, some cm, p3, F6, S.bt (drop F6) ((upd_ne (Ne.symm xs)).trans S5.ob) S5.le, upd_same, (upd_ne (Ne.symm xm)).trans (b5 _ _ ms' hm4), IsArms.up (G46.dn G1) A4, IsArms.up ?_ isC, fun e h => ?_, fun n p2 e h h2 => ?_, fun n p2 ms p3 h h2 => ?_⟩
      · refine dn_mono (F4.none fun m hm' => ?_) fun a o n h => G56 a o (fun z => ?_) h
        · rcases List.mem_cons.mp hm' with q | hm'
          · rw [q, S4.ob]; simp
          rcases List.mem_cons.mp hm' with q | hm'
          · rw [q, hx4]; simp
          rcases List.mem_cons.mp hm' with q | hm'
          · rw [q, hm4]; simp
          · cases hm'
        · rcases List.mem_cons.mp z with q | z
          · rw [q, S4.ob] at n; cases n
          rcases List.mem_cons.mp z with q | z
          · rw [q, hx4] at n; cases n
          rcases List.mem_cons.mp z with q | z
          · rw [q, hm4] at n; cases n
          · cases z
      · simp [markedFrom, he, he2', he3, Except.map, h]
      · simp [markedFrom, he, he2', he3, Except.map, h, h2]
      · simp [markedFrom, he, he2', he3, Except.map, h, h2]
    · have c' : n = 0 := by
        by_cases z : n = 1
        · rw [z] at c
          simp at c
        · dsimp only at hn
          omega
      subst c'
      refine ⟨rfl, .non, none, p2, F4, S4, hx4, hm4, A4, rfl, fun e h => ?_, fun n p2 e h h2 => ?_, fun n p2 ms p3 h h2 => ?_⟩
      · simp [markedFrom, he, he2', h]
      · simp [markedFrom, he, he2', h, h2]
      · simp [markedFrom, he, he2', h, h2]
  · rintro σ H4 ⟨rfl, cv, cant, q, F4, S4, hx4, hm4, A4, C4, e1, e2, e3⟩
    walk_at "rd"
    refine ⟨(0, 60), s, dx, cc, bs, q, rfl, trivial, S4, ⟨fun e he2 d H5 b5 hd => R.err e (e1 e he2) d H5 ((drop F4).trans b5) hd, fun n p2 he2 v H5 b5 S5 is => ?_⟩⟩
    obtain rfl : v = .int (n : Int) := is
    obtain ⟨_, _, hn, _, _⟩ := num_is he2
    dsimp only at hn
    have he2' : numAt 0 MARKS ANY q (bs.drop q) = .ok (n, p2, bs.drop p2) := he2
    have F5 : BtM [s, x, ml] H1 H5 := F4.trans (.of b5 (by simp))
    have A5 := IsArms.up ((BtM.of b5 (M := [s, x, ml]) (by simp)).dn G1) A4
    have C5 := IsCant.up ((BtM.of b5 (M := [s, x, ml]) (by simp)).dn G1) C4
    have hx5 := b5 _ _ xs hx4
    have hm5 := b5 _ _ ms' hm4
    refine ⟨n, rfl, by omega, by omega, ?_⟩
    refine for_range (lo := 0) (n := (n : Int).toNat) (fun i σ H' => ∃ (v2 v3 : Option V) (vs : List V) (ls : List (Nat × Nat)) (q : Nat), σ = [some (.ref s), some (.ref x), v2, v3] ∧ BtM [s, x, ml] H1 H' ∧ Src K (He.ga K "Bytes") H' s dx cc bs q ∧
      H' x = some (.ins (He.ga K "Coat") dxc (coaF 0 av cv ml cl)) ∧ H' ml = some (.lst vs) ∧ IsArms K (Dn H1 H') av am ∧ IsCant K (Dn H1 H') cv cant ∧
      Paired (IsMark (Dn H1 H')) vs ls ∧ ls.length = i ∧ goesOn (marksFrom n p2 (bs.drop p2)) (marksFrom (n - i) q (bs.drop q)) ls) ?_ ?_ ?_
    · exact ⟨none, none, [], [], p2, rfl, F5, S5, hx5, hm5, A5, C5, .nil, rfl, .start⟩
    · rintro i σ H6 hi ⟨v2, v3, vs, ls, q, rfl, F6, S6, hx6, hm6, A6, C6, P6, len6, go6⟩
      have hi' : i < n := by omega
      have en : n - i = (n - (i + 1)) + 1 := by omega
      rw [en] at go6
      walk_at "rd"
      refine ⟨(0, 127), s, dx, cc, bs, q, rfl, trivial, S6, ⟨fun e he7 d H7 b7 hd => R.err e (e2 _ _ e he2' (go6.err (by simp only [marksFrom, he7]))) d H7 ((drop F6).trans b7) hd, fun g q1 he7 v H7 b7 S7 is => ?_⟩⟩
      obtain rfl : v = .int (g : Int) := is
      have F7 := F6.trans (.of b7 (M := [s, x, ml]) (by simp))
      have hx7 := b7 _ _ xs hx6
      have hm7 := b7 _ _ ms' hm6
      walk_at "rd"
      refine ⟨.inl ⟨rfl, _, SqL.of hm7⟩, ?_⟩
      walk_at "rd"
      refine ⟨(1, 255), s, dx, cc, bs, q1, rfl, trivial, S7, ⟨fun e he8 d H8 b8 hd => R.err e (e2 _ _ e he2' (go6.err (by simp only [marksFrom, he7, he8]))) d H8 ((drop F7).trans b8) hd, fun kk q2 he8 v H8 b8 S8 is => ?_⟩⟩
      obtain rfl : v = .int (kk : Int) := is
      have F8 := F7.trans (.of b8 (M := [s, x, ml]) (by simp))
      have hx8 := b8 _ _ xs hx7
      have hm8 := b8 _ _ ms' hm7
      refine ⟨by show 2 ≤ sizeLine; decide, fun t ht => ?_⟩
      have nt : ml ≠ t := ne_of_none hm8 ht
      refine ⟨ml, vs, _, rfl, rfl, (upd_ne nt).trans hm8, ?_, ?_⟩
      · have z := Paired.length P6
        have z2 : vs.length ≤ 60 := by omega
        exact Nat.lt_of_le_of_lt z2 (by decide)
      · have F9 : BtM [s, x, ml] H1 (upd (upd H8 t (.tup [.int (g : Int), .int (kk : Int)])) ml (.lst (vs ++ [.ref t]))) := (F8.new ht).put (by simp)
        have G9 : BtM [s, x, ml] H6 (upd (upd H8 t (.tup [.int (g : Int), .int (kk : Int)])) ml (.lst (vs ++ [.ref t]))) := (((BtM.of b7 (by simp)).trans (.of b8 (by simp))).new ht).put (by simp)
        have nt0 : H1 t = none := F8.none (fun m hm' => by
          rcases List.mem_cons.mp hm' with q | hm'
          · rw [q, S8.ob]; simp
          rcases List.mem_cons.mp hm' with q | hm'
          · rw [q, hx8]; simp
          rcases List.mem_cons.mp hm' with q | hm'
          · rw [q, hm8]; simp
          · cases hm') t ht
        refine ⟨_, _, vs ++ [.ref t], ls ++ [(g, kk)], q2, rfl, F9, S.bt (drop F9) ?_ S8.le, ?_, upd_same, IsArms.up (G9.dn G1) A6, IsCant.up (G9.dn G1) C6, ?_, by simp [len6],
          go6.turn (fun e h => by simp only [marksFrom, he7, he8, h]) fun r h => by simp only [marksFrom, he7, he8, h]⟩
        · rw [upd_ne (Ne.symm ms'), upd_ne (ne_of_none S8.ob ht)]
          exact S8.ob
        · rw [upd_ne xm, upd_ne (ne_of_none hx8 ht)]
          exact hx8
        · refine Paired.snoc (Paired.up P6 fun _ _ z => IsTwo.up (G9.dn G1) z) ⟨t, rfl, dn_of nt0 ?_⟩
          rw [upd_ne (Ne.symm nt)]
          exact upd_same
    · rintro σ H6 ⟨v2, v3, vs, ls, q, rfl, F6, S6, hx6, hm6, A6, C6, P6, len6, go6⟩
      have e0 : n - (n : Int).toNat = 0 := by omega
      rw [e0] at go6
      have z := go6.ok (p := q) (b := bs.drop q) rfl
      refine ⟨_, rfl, ?_⟩
      have U : Same (Dn H1 H6) (Dn H H6) := dn_mono (fun a h => sa.free h) fun _ _ _ h => h
      exact R.ok ⟨am, cant, ls⟩ q (e3 _ _ _ _ he2' z) (.ref x) H6 (drop F6) S6 ⟨x, dxc, ml, cl, av, cv, vs, rfl, dn_of nx hx6, IsArms.up U A6, IsCant.up U C6, dn_of nm hm6, Paired.up P6 fun _ _ z => IsTwo.up U z, dn_of nc (F6 _ _ (by simp [cs, Ne.symm xc, mc.symm]) hc)⟩
end
end Hc

namespace Hc
open PySem PySem.Spec PyProof.Rows L2
open Sh ShMarsh
set_option hygiene false
local macro_rules | `(tactic| walk_at "hp") => `(tactic| first | assumption | exact Src.ob (by assumption) | exact Rdr.ob (by assumption) | exact upd_same)
local macro_rules | `(tactic| walk_at "sq") => `(tactic| first | assumption | exact Src.sq (by assumption) | exact Rdr.sq (by assumption) | exact SqL.of (by assumption) | exact SqL.of upd_same | exact SqT.of (by assumption) | exact SqT.of upd_same)
local macro_rules | `(tactic| walk_at "cl") => `(tactic| with_reducible first | exact T.c_Bytes | exact T.c_Coat | exact T.c_Arms | exact T.c_Layer | exact T.c_Token | exact T.c_Reader | exact T.c_Words)
local macro_rules | `(tactic| walk_at "na") => `(tactic| with_reducible first | exact T.n_Bytes_some | exact T.n_Bytes_at | exact T.n_Coat_kind | exact T.n_Coat_arms | exact T.n_Coat_canton | exact T.n_Coat_marks | exact T.n_Coat_coats | exact T.n_Arms_field | exact T.n_Arms_layers | exact T.n_Layer_kind | exact T.n_Layer_numbers | exact T.n_Layer_fill | exact T.n_Token_kind | exact T.n_Token_value | exact T.n_Token_place | exact T.n_Token_behind | exact T.n_Reader_some | exact T.n_Reader_at | exact T.n_Reader_end | exact T.n_Words_some | exact T.n_Words_at)
local macro_rules | `(tactic| walk_at "ai") => `(tactic| first | assumption | exact atI_nat (by assumption) | rfl)
local macro_rules | `(tactic| walk_at "rd1") => `(tactic| first
  | refine ⟨_, rfl, ?_⟩
  | refine ⟨rfl, ?_⟩
  | refine ⟨_, _, rfl, rfl, ?_⟩
  | refine ⟨_, _, _, _, _, rfl, (by walk_at "hp"), (by walk_at "cl"), (by walk_at "na"), (by rfl), ?_⟩
  | refine ⟨_, _, _, _, rfl, (by walk_at "hp"), (by walk_at "cl"), (by walk_at "na"), Nat.le_of_ble_eq_true rfl, ?_⟩
  | refine ⟨_, _, _, _, rfl, rfl, (by walk_at "sq"), (by walk_at "ai"), ?_⟩
  | refine ⟨_, _, rfl, (by first | exact Or.inl (by walk_at "sq") | exact Or.inr (by walk_at "sq")), ?_⟩
  | refine ⟨(by walk_at "ar"), ?_⟩)
local macro_rules | `(tactic| walk_at "ar") => `(tactic| first | exact (show CDiv _ _ from ⟨by decide, by decide⟩) | exact (show (0 : Int) < _ from by decide) | exact (show CMul _ _ from .inl ⟨by omega, by omega⟩) | exact (show CMul _ _ from .inr ⟨by omega, by omega⟩))
local macro_rules | `(tactic| walk_at "rd") => `(tactic| repeat walk_at "rd1")
local macro_rules | `(tactic| walk_at "fa") => `(tactic| first | exact ⟨_, rfl, (by omega), rfl⟩ | exact ⟨_, _, rfl, (by omega), rfl⟩ | exact ⟨_, _, _, rfl, (by omega), rfl⟩ | exact ⟨_, _, _, _, rfl, (by omega), rfl⟩ | exact ⟨_, _, _, _, _, rfl, (by omega), rfl⟩)
local macro_rules | `(tactic| walk_at "vr") => `(tactic| first
  | exact v_var (by rfl)
  | exact v_c
  | (apply v_i0 <;> walk_at "vr")
  | (apply v_i <;> first | walk_at "ar" | walk_at "vr")
  | (apply v_neg <;> walk_at "vr")
  | (apply v_eq <;> walk_at "vr")
  | (apply v_eqB <;> walk_at "vr")
  | (apply v_ne <;> walk_at "vr")
  | (apply v_neB <;> walk_at "vr")
  | (apply v_chain (g := fun _ _ => _) (g' := fun _ _ => _) <;> walk_at "vr")
  | (apply v_and <;> walk_at "vr")
  | (apply v_or <;> walk_at "vr")
  | (apply v_not <;> walk_at "vr")
  | (apply v_ifI <;> walk_at "vr")
  | (apply v_ifB <;> walk_at "vr")
  | (apply v_call <;> first | walk_at "fa" | walk_at "vr")
  | (apply v_abs <;> walk_at "vr")
  | (apply v_min <;> walk_at "vr")
  | exact va_nil
  | (apply va_cons <;> walk_at "vr")
  | (apply a_test <;> walk_at "vr")
  | (apply a_B <;> walk_at "vr")
  | (apply a_and <;> walk_at "vr")
  | (apply a_or <;> walk_at "vr")
  | (apply a_not <;> walk_at "vr"))
local macro_rules | `(tactic| walk_at "rs") => `(tactic| first
  | (apply r_ret; walk_at "vr")
  | (apply r_set; walk_at "vr"; walk_at "rs")
  | (apply r_ifI; walk_at "vr"; intro _; walk_at "rs"; intro _; walk_at "rs")
  | (apply r_ifB; walk_at "vr"; intro _; walk_at "rs"; intro _; walk_at "rs"))

/-- the coat of a kind and its coats -/
def mkCoat (n : Nat) (l : List Coat) : Coat := match n, l with
  | 2, [a, b] => .impaled a b
  | 3, [a, b] => .pretence a b
  | _, l => .quarters l
theorem IsCoats.snoc {K : PySem.W.Frag} {D : Hp} : ∀ {vs : List V} {ls : List Coat} {v : V} {c : Coat}, IsCoats K D vs ls → IsCoat K D v c → IsCoats K D (vs ++ [v]) (ls ++ [c])
  | [], [], v, c, _, h => by
    show IsCoats K D [v] [c]
    unfold IsCoats
    exact ⟨h, by unfold IsCoats; trivial⟩
  | a :: vs, b :: ls, v, c, h, hc => by
    show IsCoats K D (a :: (vs ++ [v])) (b :: (ls ++ [c]))
    unfold IsCoats at h ⊢
    exact ⟨h.1, IsCoats.snoc h.2 hc⟩
  | [], _ :: _, _, _, h, _ => by unfold IsCoats at h; exact h.elim
  | _ :: _, [], _, _, h, _ => by unfold IsCoats at h; exact h.elim
theorem IsCoats.len {K : PySem.W.Frag} {D : Hp} : ∀ {vs : List V} {ls : List Coat}, IsCoats K D vs ls → vs.length = ls.length
  | [], [], _ => rfl
  | _ :: vs, _ :: ls, h => by
    unfold IsCoats at h
    exact congrArg Nat.succ (IsCoats.len h.2)
  | [], _ :: _, h => by unfold IsCoats at h; exact h.elim
  | _ :: _, [], h => by unfold IsCoats at h; exact h.elim
theorem several_err1 {one : Nat → B → Except Nat (Coat × Nat × B)} {m q : Nat} {b : B} {e : Nat} (h : one q b = .error e) : several one (m + 1) q b = .error e := by simp only [several, h]
/-- two coats, one behind another -/
theorem several_two {one : Nat → B → Except Nat (Coat × Nat × B)} {q : Nat} {b : B} : several one 2 q b = match one q b with
    | .error e => .error e
    | .ok x => match one x.2.1 x.2.2 with
      | .error e => .error e
      | .ok y => .ok ([x.1, y.1], y.2) := by
  cases h : one q b with
  | error e => simp only [several, h]
  | ok x =>
    cases h2 : one x.2.1 x.2.2 with
    | error e => simp only [several, h, h2]
    | ok y => simp only [several, h, h2]
theorem mkCoat_1 (l : List Coat) : mkCoat 1 l = .quarters l := by simp [mkCoat]
theorem mkCoat_2 (a b : Coat) : mkCoat 2 [a, b] = .impaled a b := by simp [mkCoat]
theorem mkCoat_3 (a b : Coat) : mkCoat 3 [a, b] = .pretence a b := by simp [mkCoat]
theorem len_two {α : Type} : ∀ {l : List α}, l.length = 2 → ∃ a b, l = [a, b]
  | [a, b], _ => ⟨a, b, rfl⟩
theorem isCoat_mk {K : PySem.W.Frag} {D : Hp} {n : Nat} {x dx ml cl : Addr} {vs : List V} {ls : List Coat} (hn : n = 1 ∨ ((n = 2 ∨ n = 3) ∧ ls.length = 2)) (hx : D x = some (.ins (He.ga K "Coat") dx (coaF n .non .non ml cl))) (hm : D ml = some (.lst [])) (hc : D cl = some (.lst vs)) (h : IsCoats K D vs ls) :
    IsCoat K D (.ref x) (mkCoat n ls) := by
  rcases hn with rfl | ⟨hn, h2⟩
  · rw [mkCoat_1]
    unfold IsCoat
    exact ⟨x, dx, ml, cl, vs, rfl, hx, hm, hc, h⟩
  · obtain ⟨a, b, rfl⟩ := len_two h2
    obtain ⟨va, vb, rfl⟩ := len_two (h.len.trans h2)
    unfold IsCoats at h
    obtain ⟨ha, hb⟩ := h
    unfold IsCoats at hb
    rcases hn with rfl | rfl
    · rw [mkCoat_2]
      unfold IsCoat
      exact ⟨x, dx, ml, cl, va, vb, rfl, hx, hm, hc, ha, hb.1⟩
    · rw [mkCoat_3]
      unfold IsCoat
      exact ⟨x, dx, ml, cl, va, vb, rfl, hx, hm, hc, ha, hb.1⟩
/-- one depth of a coat's reading -/
def coatStep (one : Nat → B → Except Nat (Coat × Nat × B)) (hi p : Nat) (b : B) : Except Nat (Coat × Nat × B) := match numAt 0 hi ANY p b with
  | .error e => .error e
  | .ok k => if k.1 = 0 then (match markedFrom k.2.1 k.2.2 with
      | .error e => .error e
      | .ok m => .ok (.one m.1, m.2))
    else if k.1 = 1 then (match numAt 2 QUARTERS ANY k.2.1 k.2.2 with
      | .error e => .error e
      | .ok n => match several one n.1 n.2.1 n.2.2 with
        | .error e => .error e
        | .ok l => .ok (.quarters l.1, l.2))
    else match one k.2.1 k.2.2 with
      | .error e => .error e
      | .ok x => match one x.2.1 x.2.2 with
        | .error e => .error e
        | .ok y => .ok (if k.1 = 2 then .impaled x.1 y.1 else .pretence x.1 y.1, y.2)
theorem coatFrom_s (d p : Nat) (b : B) : coatFrom (d + 1) p b = coatStep (coatFrom d) (if d = 0 then 0 else 3) p b := by
  rw [coatFrom]
  rfl
/-- a coat at a depth (fuel d) -/
def spCoat (K : PySem.W.Frag) : Nat → Sp
  | 0 => fun _ _ _ _ => False
  | d + 1 => spRd (ι := Unit) K (fun _ => [.int ((4 : Int) - (d : Nat))]) (fun _ _ => True) (fun _ => coatFrom (d + 1)) (IsCoat K)
section
variable {P : Program} {w : World} {K : PySem.W.Frag} {mg : Str → Option Value} {base : Heap}
theorem step_read_coat (T : Txt w K mg) (u_read_byte : Cal P w K mg base (L2.CX P w) 3 "read_byte" p_read_byte (spByte K)) (u_read_marked : Cal P w K mg base (L2.CX P w) 9 "read_marked" p_read_marked (spMarked K)) (m_Coat : Mak P w K mg base 1 "Coat" p_Coat_init (spI_Coat K)) (d : Nat) (u_read_coat : Cal P w K mg base (L2.CX P w) (15 + d) "read_coat" p_read_coat (spCoat K d)) : Cal P w K mg base (L2.CX P w) (15 + d + 1) "read_coat" p_read_coat (spCoat K (d + 1)) := by
  refine T.d_read_coat.cal sc_read_coat (fun vs H Q E h => by obtain ⟨_, _, _, _, _, _, rfl, _⟩ := h; rfl) ?_
  intro cdv A outer s0 H vs Q E hr h
  have nd := sc_read_coat.nd
  have tk := tkX (P := P) (w := w) (K := K) (mg := mg) (base := base) (N := n_read_coat) (q := "read_coat") (sc := defScope s_read_coat) (f := He.ga K "read_coat") (cdv := cdv) (A := A) (outer := outer) (s := s0) (H := H) (E := E)
  have pX := paX (P := P) (w := w) (K := K) (mg := mg) (base := base) (N := n_read_coat) (q := "read_coat") (sc := defScope s_read_coat) (f := He.ga K "read_coat") (cdv := cdv) (A := A) (outer := outer) (s := s0) (H := H) (E := E)
  have po := poX (CX := L2.CX P w) (P := P) (w := w) (K := K) (mg := mg) (base := base) (N := n_read_coat) (q := "read_coat") (sc := defScope s_read_coat) (f := He.ga K "read_coat") (cdv := cdv) (A := A) (outer := outer) (s := s0) (H := H) (E := E)
  have h_read_byte : Room (3) _ := hr.mono (by omega)
  have h_read_marked : Room (9) _ := hr.mono (by omega)
  have h_Coat : Room (2) _ := hr.mono (by omega)
  have h_read_coat : Room (15+d) _ := hr.mono (by omega)
  refine ⟨_, (pss_cons (ps_set (i := 2) nd rfl (Or.inl rfl) (pe_cal u_read_byte (h_read_byte) pX (pa_cons (pv 0) (pa_cons (pe_gi T.i_MARKED) (pa_cons (pe_ifExp (pt_cmpR op_lt (pv 1) (pe_gi T.i_MOST_DEEP) (nomark _)) pe_int (pe_gi T.i_MARKED)) pa_nil)))))
      (pss_cons (ps_if (pt_cmpR op_eq (pv 2) (pe_gi T.i_MARKED) (nomark _)) (pss_one (ps_ret (pe_cal u_read_marked (h_read_marked) pX (pa_cons (pv 0) pa_nil)))) pss_nil)
      (pss_cons (ps_set (i := 3) nd rfl (Or.inl rfl) (pe_mak m_Coat (h_Coat) (pa_cons (pv 2) pa_nil)))
      (Evl.pss_cut (ps_set (i := 4) nd rfl (Or.inl rfl) (pe_ifExp (pt_cmpR op_eq (pv 2) (pe_gi T.i_QUARTERLY) (nomark _)) (pe_cal u_read_byte (h_read_byte) pX (pa_cons (pv 0) (pa_cons pe_int (pa_cons pe_int pa_nil)))) pe_int))
      (pss_cons (ps_for po rfl (pi_range1 rfl T.f_range (pa_cons (pv 4) pa_nil)) (pg_name (i := 5) nd rfl (Or.inl rfl))
      (pss_one (ps_expr (pe_bm PySem.F.plainAttrs_list PySem.F.slot_list_append PySem.F.type_list_append mt_append (pe_fld (pv 3) rfl) (pa_cons (pe_cal u_read_coat (h_read_coat) pX (pa_cons (pv 0) (pa_cons (pe_op op_add (pv 1) pe_int) pa_nil))) pa_nil)))))
      (pss_one (ps_ret (pv 3)))))))), ?_⟩
  try dsimp only [cxOf]
  clear h_read_coat h_Coat h_read_marked h_read_byte po pX tk nd
  obtain ⟨_, s, dx, cc, bs, k, rfl, _, S, R⟩ := h
  walk_at "rd"
  cases d with
  | zero =>
    refine iteB (fun c => absurd (of_decide_eq_true c) (by omega)) fun _ => ?_
    refine ⟨(0, 0), s, dx, cc, bs, k, rfl, trivial, S, ⟨fun e he d H1 b1 hd => R.err e (by show coatFrom 1 k _ = _; rw [coatFrom_s]; simp [coatStep, he]) d H1 b1 hd, fun n p he v H1 b1 S1 is => ?_⟩⟩
    obtain rfl : v = .int (n : Int) := is
    obtain ⟨_, _, hn, _, _⟩ := num_is he
    obtain rfl : n = 0 := by
      dsimp only at hn
      omega
    walk_at "rd"
    refine ⟨(), s, dx, cc, bs, p, rfl, trivial, S1, ⟨fun e he2 d H2 b2 hd => R.err e (by show coatFrom 1 k _ = _; rw [coatFrom_s]; simp [coatStep, he, he2]) d H2 (b1.trans b2) hd, fun m p2 he2 v H2 b2 S2 is => ?_⟩⟩
    refine R.ok (.one m) p2 (by show coatFrom 1 k _ = _; rw [coatFrom_s]; simp [coatStep, he, he2]) v H2 (b1.trans b2) S2 ?_
    unfold IsCoat
    exact IsMarked.up (dn_mono (b1.none S1.ob) fun _ _ _ h => h) is
  | succ d =>
    refine iteB (fun _ => ?_) fun c => absurd (of_decide_eq_false c) (by omega)
    refine ⟨(0, 3), s, dx, cc, bs, k, rfl, trivial, S, ⟨fun e he d' H1 b1 hd => R.err e (by show coatFrom (d + 1 + 1) k _ = _; rw [coatFrom_s]; simp [coatStep, he]) d' H1 b1 hd, fun n p he v H1 b1 S1 is => ?_⟩⟩
    obtain rfl : v = .int (n : Int) := is
    obtain ⟨_, _, hn, _, _⟩ := num_is he
    dsimp only at hn
    walk_at "rd"
    refine iteB (fun c => ?_) fun c => ?_
    · have c' : n = 0 := by
        have z := of_decide_eq_true c
        injection z with z
        omega
      subst c'
      walk_at "rd"
      refine ⟨(), s, dx, cc, bs, p, rfl, trivial, S1, ⟨fun e he2 d' H2 b2 hd => R.err e (by show coatFrom (d + 1 + 1) k _ = _; rw [coatFrom_s]; simp [coatStep, he, he2]) d' H2 (b1.trans b2) hd, fun m p2 he2 v H2 b2 S2 is => ?_⟩⟩
      refine R.ok (.one m) p2 (by show coatFrom (d + 1 + 1) k _ = _; rw [coatFrom_s]; simp [coatStep, he, he2]) v H2 (b1.trans b2) S2 ?_
      unfold IsCoat
      exact IsMarked.up (dn_mono (b1.none S1.ob) fun _ _ _ h => h) is
    · have c' : ¬ n = 0 := fun z => by
        rw [z] at c
        simp at c
      walk_at "rd"
      refine mk_Coat (n := n) fun x dxc ml cl H2 nx nm nc mc sa hx hm hc => ?_
      have heR : numAt 0 3 ANY k (bs.drop k) = .ok (n, p, bs.drop p) := he
      have n1 := b1.none S1.ob
      have xs : x ≠ s := fun z => by rw [z, S1.ob] at nx; cases nx
      have cs : cl ≠ s := fun z => by rw [z, S1.ob] at nc; cases nc
      have ms' : ml ≠ s := fun z => by rw [z, S1.ob] at nm; cases nm
      have xc : x ≠ cl := ne_of hx hc (by intro z; cases z)
      have S2 := S1.bt (.same sa) (sa _ _ S1.ob) S1.le
      have B2 : Bt s H H2 := b1.trans (.same sa)
      walk_at "rd"
      refine ⟨fun σ H3 => ∃ (m q : Nat), σ = [some (.ref s), some (.int (4 - ((d + 1 : Nat) : Int))), some (.int (n : Int)), some (.ref x), some (.int (m : Int)), none] ∧ Bt s H2 H3 ∧ Src K (He.ga K "Bytes") H3 s dx cc bs q ∧ m ≤ 9 ∧ (n ≠ 1 → m = 2) ∧
        (∀ e, several (coatFrom (d + 1)) m q (bs.drop q) = .error e → coatFrom (d + 1 + 1) k (bs.drop k) = .error e) ∧
        (∀ l p3, several (coatFrom (d + 1)) m q (bs.drop q) = .ok (l, p3, bs.drop p3) → l.length = m → coatFrom (d + 1 + 1) k (bs.drop k) = .ok (mkCoat n l, p3, bs.drop p3)), ?_, ?_⟩
      · walk_at "rd"
        refine iteB (fun c1 => ?_) fun c1 => ?_
        · have c1' : n = 1 := by
            have z := of_decide_eq_true c1
            injection z with z
            omega
          subst c1'
          walk_at "rd"
          refine ⟨(2, 9), s, dx, cc, bs, p, rfl, trivial, S2, ⟨fun e he3 d' H3 b3 hd => R.err e ?_ d' H3 (B2.trans b3) hd, fun m p2 he3 v H3 b3 S3 is => ?_⟩⟩
          · show coatFrom (d + 1 + 1) k _ = _
            rw [coatFrom_s]
            simp only [coatStep]
            rw [if_neg (by omega : ¬ d + 1 = 0), heR]
            simp only
            rw [if_neg (by omega), if_pos trivial]
            rw [show numAt 2 QUARTERS ANY p (bs.drop p) = .error e from he3]
          · obtain rfl : v = .int (m : Int) := is
            obtain ⟨_, _, hm9, _, _⟩ := num_is he3
            have he3' : numAt 2 QUARTERS ANY p (bs.drop p) = .ok (m, p2, bs.drop p2) := he3
            refine ⟨m, p2, rfl, b3, S3, hm9, fun z => absurd rfl z, fun e h => ?_, fun l p3 h _ => ?_⟩
            · rw [coatFrom_s]
              simp only [coatStep]
              rw [if_neg (by omega : ¬ d + 1 = 0), heR]
              simp only
              rw [if_neg (by omega), if_pos trivial, he3']
              simp only
              rw [h]
            · rw [coatFrom_s]
              simp only [coatStep]
              rw [if_neg (by omega : ¬ d + 1 = 0), heR]
              simp only
              rw [if_neg (by omega), if_pos trivial, he3']
              simp only
              rw [h, mkCoat_1]
        · have c1' : ¬ n = 1 := fun z => by
            rw [z] at c1
            simp at c1
          refine ⟨2, p, rfl, .refl, S2, by omega, fun _ => rfl, fun e h => ?_, fun l p3 h hl => ?_⟩
          · rw [coatFrom_s]
            simp only [coatStep]
            rw [if_neg (by omega : ¬ d + 1 = 0), heR]
            simp only
            rw [if_neg c', if_neg c1']
            rw [several_two] at h
            cases h1 : coatFrom (d + 1) p (bs.drop p) with
            | error e1 =>
              rw [h1] at h
              simp only at h ⊢
              injection h with h
              rw [h]
            | ok r1 =>
              rw [h1] at h
              simp only at h ⊢
              cases h2 : coatFrom (d + 1) r1.2.1 r1.2.2 with
              | error e2 =>
                rw [h2] at h
                simp only at h ⊢
                injection h with h
                rw [h]
              | ok r2 =>
                rw [h2] at h
                cases h
          · rw [coatFrom_s]
            simp only [coatStep]
            rw [if_neg (by omega : ¬ d + 1 = 0), heR]
            simp only
            rw [if_neg c', if_neg c1']
            rw [several_two] at h
            cases h1 : coatFrom (d + 1) p (bs.drop p) with
            | error e1 =>
              rw [h1] at h
              cases h
            | ok r1 =>
              rw [h1] at h
              simp only at h ⊢
              cases h2 : coatFrom (d + 1) r1.2.1 r1.2.2 with
              | error e2 =>
                rw [h2] at h
                cases h
              | ok r2 =>
                rw [h2] at h
                simp only at h ⊢
                injection h with h
                obtain ⟨h3, h4⟩ := Prod.mk.inj h
                rw [← h3, h4]
                have hn23 : n = 2 ∨ n = 3 := by omega
                rcases hn23 with rfl | rfl
                · rw [if_pos rfl, mkCoat_2]
                · rw [if_neg (by decide), mkCoat_3]
      · rintro σ H3 ⟨m, p2, rfl, b3, S3, hm9, hm2, e1, e2⟩
        walk_at "rd"
        refine ⟨by omega, by omega, ?_⟩
        have G2 : ∀ m' ∈ [s, cl], H2 m' ≠ none := fun m' hm' => by
          rcases List.mem_cons.mp hm' with q | hm'
          · rw [q, S2.ob]; simp
          rcases List.mem_cons.mp hm' with q | hm'
          · rw [q, hc]; simp
          · cases hm'
        have drop : ∀ {H'}, BtM [s, cl] H2 H' → Bt s H H' := fun {H'} e => BtM.drop b1 (fun m' hm' => by
          rcases List.mem_cons.mp hm' with q | hm'
          · exact .inl q
          rcases List.mem_cons.mp hm' with q | hm'
          · exact .inr (q ▸ nc)
          · cases hm') ((BtM.same sa).trans e)
        refine for_range (lo := 0) (n := (m : Int).toNat) (fun i σ H' => ∃ (v5 : Option V) (vs : List V) (ls : List Coat) (q : Nat), σ = [some (.ref s), some (.int (4 - ((d + 1 : Nat) : Int))), some (.int (n : Int)), some (.ref x), some (.int (m : Int)), v5] ∧ BtM [s, cl] H2 H' ∧ Src K (He.ga K "Bytes") H' s dx cc bs q ∧
          H' cl = some (.lst vs) ∧ IsCoats K (Dn H2 H') vs ls ∧ ls.length = i ∧ goesOn (several (coatFrom (d + 1)) m p2 (bs.drop p2)) (several (coatFrom (d + 1)) (m - i) q (bs.drop q)) ls) ?_ ?_ ?_
        · exact ⟨none, [], [], p2, rfl, .of b3 (by simp), S3, b3 _ _ cs hc, (by unfold IsCoats; trivial), rfl, .start⟩
        · rintro i σ H4 hi ⟨v5, vs, ls, q, rfl, F4, S4, hc4, P4, len4, go4⟩
          have hi' : i < m := by omega
          have en : m - i = (m - (i + 1)) + 1 := by omega
          rw [en] at go4
          have hx4 : H4 x = some (.ins (He.ga K "Coat") dxc (coaF n .non .non ml cl)) := F4 _ _ (by simp [xs, xc]) hx
          walk_at "rd"
          refine ⟨.inl ⟨rfl, _, SqL.of hc4⟩, ?_⟩
          walk_at "rd"
          refine ⟨(), s, dx, cc, bs, q, (by simp; omega), trivial, S4, ⟨fun e he5 d' H5 b5 hd => R.err e (e1 e (go4.err (by simp only [several]; rw [show coatFrom (d + 1) q (bs.drop q) = .error e from he5]))) d' H5 ((drop F4).trans b5) hd, fun y p5 he5 v H5 b5 S5 is => ?_⟩⟩
          have hc5 := b5 _ _ cs hc4
          have he5' : coatFrom (d + 1) q (bs.drop q) = .ok (y, p5, bs.drop p5) := he5
          refine ⟨cl, vs, _, rfl, rfl, hc5, ?_, ?_⟩
          · have z := P4.len
            have z2 : vs.length ≤ 9 := by omega
            exact Nat.lt_of_le_of_lt z2 (by decide)
          · have F6 : BtM [s, cl] H4 (upd H5 cl (.lst (vs ++ [v]))) := (BtM.of b5 (by simp)).put (by simp)
            refine ⟨_, vs ++ [v], ls ++ [y], p5, rfl, F4.trans F6, S.bt (drop (F4.trans F6)) ((upd_ne (Ne.symm cs)).trans S5.ob) S5.le, upd_same, ?_, by simp [len4], go4.turn (fun e h => by simp only [several, he5', h]) fun r h => by simp only [several, he5', h]⟩
            refine IsCoats.snoc (IsCoats.up (F6.dn G2) P4) (IsCoat.up (dn_mono (F4.none fun m' hm' => ?_) fun a o n h => ?_) is)
            · rcases List.mem_cons.mp hm' with q | hm'
              · rw [q, S4.ob]; simp
              rcases List.mem_cons.mp hm' with q | hm'
              · rw [q, hc4]; simp
              · cases hm'
            · rw [upd_ne (fun z => by rw [z, hc4] at n; cases n)]
              exact h
        · rintro σ H4 ⟨v5, vs, ls, q, rfl, F4, S4, hc4, P4, len4, go4⟩
          have e0 : m - (m : Int).toNat = 0 := by omega
          rw [e0] at go4
          have z := go4.ok (p := q) (b := bs.drop q) rfl
          have lm : ls.length = m := by omega
          refine ⟨_, rfl, ?_⟩
          have U : Same (Dn H2 H4) (Dn H H4) := dn_mono (fun a h => n1 a (sa.free h)) fun _ _ _ h => h
          have hx4 : H4 x = some (.ins (He.ga K "Coat") dxc (coaF n .non .non ml cl)) := F4 _ _ (by simp [xs, xc]) hx
          have hm4 : H4 ml = some (.lst []) := F4 _ _ (by simp [ms', mc]) hm
          refine R.ok (mkCoat n ls) q (e2 ls q z lm) (.ref x) H4 (drop F4) S4 (isCoat_mk ?_ (dn_of (n1 x nx) hx4) (dn_of (n1 ml nm) hm4) (dn_of (n1 cl nc) hc4) (IsCoats.up U P4))
          by_cases hn1 : n = 1
          · exact .inl hn1
          · exact .inr ⟨by omega, by rw [lm]; exact hm2 hn1⟩
end
end Hc

namespace Hc
open PySem PySem.Spec PyProof.Rows L2
open Sh ShMarsh
set_option hygiene false
local macro_rules | `(tactic| walk_at "hp") => `(tactic| first | assumption | exact Src.ob (by assumption) | exact Rdr.ob (by assumption) | exact upd_same)
local macro_rules | `(tactic| walk_at "sq") => `(tactic| first | assumption | exact Src.sq (by assumption) | exact Rdr.sq (by assumption) | exact SqL.of (by assumption) | exact SqL.of upd_same | exact SqT.of (by assumption) | exact SqT.of upd_same)
local macro_rules | `(tactic| walk_at "cl") => `(tactic| with_reducible first | exact T.c_Bytes | exact T.c_Coat | exact T.c_Arms | exact T.c_Layer | exact T.c_Token | exact T.c_Reader | exact T.c_Words)
local macro_rules | `(tactic| walk_at "na") => `(tactic| with_reducible first | exact T.n_Bytes_some | exact T.n_Bytes_at | exact T.n_Coat_kind | exact T.n_Coat_arms | exact T.n_Coat_canton | exact T.n_Coat_marks | exact T.n_Coat_coats | exact T.n_Arms_field | exact T.n_Arms_layers | exact T.n_Layer_kind | exact T.n_Layer_numbers | exact T.n_Layer_fill | exact T.n_Token_kind | exact T.n_Token_value | exact T.n_Token_place | exact T.n_Token_behind | exact T.n_Reader_some | exact T.n_Reader_at | exact T.n_Reader_end | exact T.n_Words_some | exact T.n_Words_at)
local macro_rules | `(tactic| walk_at "ai") => `(tactic| first | assumption | exact atI_nat (by assumption) | rfl)
local macro_rules | `(tactic| walk_at "rd1") => `(tactic| first
  | refine ⟨_, rfl, ?_⟩
  | refine ⟨rfl, ?_⟩
  | refine ⟨_, _, rfl, rfl, ?_⟩
  | refine ⟨_, _, _, _, _, rfl, (by walk_at "hp"), (by walk_at "cl"), (by walk_at "na"), (by rfl), ?_⟩
  | refine ⟨_, _, _, _, rfl, (by walk_at "hp"), (by walk_at "cl"), (by walk_at "na"), Nat.le_of_ble_eq_true rfl, ?_⟩
  | refine ⟨_, _, _, _, rfl, rfl, (by walk_at "sq"), (by walk_at "ai"), ?_⟩
  | refine ⟨_, _, rfl, (by first | exact Or.inl (by walk_at "sq") | exact Or.inr (by walk_at "sq")), ?_⟩
  | refine ⟨(by walk_at "ar"), ?_⟩)
local macro_rules | `(tactic| walk_at "ar") => `(tactic| first | exact (show CDiv _ _ from ⟨by decide, by decide⟩) | exact (show (0 : Int) < _ from by decide) | exact (show CMul _ _ from .inl ⟨by omega, by omega⟩) | exact (show CMul _ _ from .inr ⟨by omega, by omega⟩))
local macro_rules | `(tactic| walk_at "rd") => `(tactic| repeat walk_at "rd1")
local macro_rules | `(tactic| walk_at "fa") => `(tactic| first | exact ⟨_, rfl, (by omega), rfl⟩ | exact ⟨_, _, rfl, (by omega), rfl⟩ | exact ⟨_, _, _, rfl, (by omega), rfl⟩ | exact ⟨_, _, _, _, rfl, (by omega), rfl⟩ | exact ⟨_, _, _, _, _, rfl, (by omega), rfl⟩)
local macro_rules | `(tactic| walk_at "vr") => `(tactic| first
  | exact v_var (by rfl)
  | exact v_c
  | (apply v_i0 <;> walk_at "vr")
  | (apply v_i <;> first | walk_at "ar" | walk_at "vr")
  | (apply v_neg <;> walk_at "vr")
  | (apply v_eq <;> walk_at "vr")
  | (apply v_eqB <;> walk_at "vr")
  | (apply v_ne <;> walk_at "vr")
  | (apply v_neB <;> walk_at "vr")
  | (apply v_chain (g := fun _ _ => _) (g' := fun _ _ => _) <;> walk_at "vr")
  | (apply v_and <;> walk_at "vr")
  | (apply v_or <;> walk_at "vr")
  | (apply v_not <;> walk_at "vr")
  | (apply v_ifI <;> walk_at "vr")
  | (apply v_ifB <;> walk_at "vr")
  | (apply v_call <;> first | walk_at "fa" | walk_at "vr")
  | (apply v_abs <;> walk_at "vr")
  | (apply v_min <;> walk_at "vr")
  | exact va_nil
  | (apply va_cons <;> walk_at "vr")
  | (apply a_test <;> walk_at "vr")
  | (apply a_B <;> walk_at "vr")
  | (apply a_and <;> walk_at "vr")
  | (apply a_or <;> walk_at "vr")
  | (apply a_not <;> walk_at "vr"))
local macro_rules | `(tactic| walk_at "rs") => `(tactic| first
  | (apply r_ret; walk_at "vr")
  | (apply r_set; walk_at "vr"; walk_at "rs")
  | (apply r_ifI; walk_at "vr"; intro _; walk_at "rs"; intro _; walk_at "rs")
  | (apply r_ifB; walk_at "vr"; intro _; walk_at "rs"; intro _; walk_at "rs"))

section
variable {P : Program} {w : World} {K : PySem.W.Frag} {mg : Str → Option Value} {base : Heap}
theorem all_read_coat (T : Txt w K mg) (u_read_byte : Cal P w K mg base (L2.CX P w) 3 "read_byte" p_read_byte (spByte K)) (u_read_marked : Cal P w K mg base (L2.CX P w) 9 "read_marked" p_read_marked (spMarked K)) (m_Coat : Mak P w K mg base 1 "Coat" p_Coat_init (spI_Coat K)) : ∀ d : Nat, Cal P w K mg base (L2.CX P w) (15 + d) "read_coat" p_read_coat (spCoat K d)
  | 0 => by
    obtain ⟨⟨fd, F, b⟩, g⟩ := T.d_read_coat
    exact ⟨⟨fd, ⟨fun _ _ _ _ h => h.elim, fun _ _ _ _ _ _ _ _ _ _ _ _ _ h => h.elim⟩, b⟩, g, F.kp⟩
  | d + 1 => step_read_coat T u_read_byte u_read_marked m_Coat d (all_read_coat T u_read_byte u_read_marked m_Coat d)
/-- a coat of these bytes, or the place of the first fault -/
def spCoatOf (K : PySem.W.Frag) : Sp := fun vs H Q E => ∃ (c : Addr) (bs : B), vs = [.ref c] ∧ SqL K H c (bs.map bv) ∧ bs.length ≤ 5000 ∧
  (∀ e, readCoat bs = .error e → ∀ (d : Addr) H', Same H H' → H' d = some (.xd [("place", .int (e : Nat))]) → E (.ref (He.ga K "NoCoat")) (some d) H') ∧
  (∀ co, readCoat bs = .ok co → ∀ v H', Same H H' → IsCoat K H' v co → Q v H')
theorem ok_coat_of_bytes (T : Txt w K mg) (m_Bytes : Mak P w K mg base 1 "Bytes" p_Bytes_init (spI_Bytes K "Bytes")) (u_read_coat : Cal P w K mg base (L2.CX P w) 19 "read_coat" p_read_coat (spCoat K 4)) (q_NoCoat : Exq P w K mg base 1 "NoCoat" p_NoCoat_init (spErr1 K "NoCoat")) : Cal P w K mg base (L2.CX P w) 20 "coat_of_bytes" p_coat_of_bytes (spCoatOf K) := by
  refine T.d_coat_of_bytes.cal sc_coat_of_bytes (fun vs H Q E h => by obtain ⟨_, _, rfl, _⟩ := h; rfl) ?_
  intro cdv A outer s0 H vs Q E hr h
  have nd := sc_coat_of_bytes.nd
  have tk := tkX (P := P) (w := w) (K := K) (mg := mg) (base := base) (N := n_coat_of_bytes) (q := "coat_of_bytes") (sc := defScope s_coat_of_bytes) (f := He.ga K "coat_of_bytes") (cdv := cdv) (A := A) (outer := outer) (s := s0) (H := H) (E := E)
  have pX := paX (P := P) (w := w) (K := K) (mg := mg) (base := base) (N := n_coat_of_bytes) (q := "coat_of_bytes") (sc := defScope s_coat_of_bytes) (f := He.ga K "coat_of_bytes") (cdv := cdv) (A := A) (outer := outer) (s := s0) (H := H) (E := E)
  have po := poX (CX := L2.CX P w) (P := P) (w := w) (K := K) (mg := mg) (base := base) (N := n_coat_of_bytes) (q := "coat_of_bytes") (sc := defScope s_coat_of_bytes) (f := He.ga K "coat_of_bytes") (cdv := cdv) (A := A) (outer := outer) (s := s0) (H := H) (E := E)
  have h_Bytes : Room (2) _ := hr.mono (by omega)
  have h_read_coat : Room (19) _ := hr.mono (by omega)
  have h_NoCoat : Room (2) _ := hr.mono (by omega)
  refine ⟨_, (pss_cons (ps_set (i := 1) nd rfl (Or.inl rfl) (pe_mak m_Bytes (h_Bytes) (pa_cons (pv 0) pa_nil)))
      (pss_cons (ps_set (i := 2) nd rfl (Or.inl rfl) (pe_cal u_read_coat (h_read_coat) pX (pa_cons (pv 1) (pa_cons pe_int pa_nil))))
      (pss_cons (ps_if (pt_cmpR op_lt (pe_fld (pv 1) rfl) (pe_callB call_len_seq (by rfl) T.f_len PySem.boot_len (pa_cons (pv 0) pa_nil)) (nomark _)) (pss_one (ps_raise rfl tk (pmk_exq q_NoCoat (h_NoCoat) (by exact (pa_cons (pe_fld (pv 1) rfl) pa_nil))))) pss_nil)
      (pss_one (ps_ret (pv 2)))))), ?_⟩
  try dsimp only [cxOf]
  clear h_NoCoat h_read_coat h_Bytes po pX tk nd
  obtain ⟨c, bs, rfl, hS, hb, kE, kQ⟩ := h
  walk_at "rd"
  refine mk_Bytes fun x dx H1 nx sa hx => ?_
  have S1 : Src K (He.ga K "Bytes") H1 x dx c bs 0 := ⟨hx, sa.seq hS, Nat.zero_le _, hb⟩
  have up : ∀ {H2}, Bt x H1 H2 → Same H H2 := fun {H2} e b o h => e b o (ne_of_none h nx) (sa b o h)
  walk_at "rd"
  refine ⟨(), x, dx, c, bs, 0, rfl, trivial, S1, ⟨fun e he d H2 b2 hd => kE e (by unfold readCoat; rw [show coatFrom DEEP 0 bs = .error e from he]) d H2 (up b2) hd, fun co p he v H2 b2 S2 is => ?_⟩⟩
  have he' : coatFrom DEEP 0 bs = .ok (co, p, bs.drop p) := he
  have sq2 := (up b2).seq hS
  walk_at "rd"
  rw [List.length_map]
  refine iteB (fun c1 => ?_) fun c1 => ?_
  · have c1' : p < bs.length := by
      have z := of_decide_eq_true c1
      omega
    walk_at "rd"
    refine raise1 fun d H3 sa3 _ hd => kE p ?_ d H3 (fun b o h => sa3 b o (up b2 b o h)) hd
    unfold readCoat
    rw [he']
    simp only
    rw [if_neg]
    intro z
    have := congrArg List.length z
    simp at this
    omega
  · have c1' : bs.length ≤ p := by
      have z := of_decide_eq_false c1
      omega
    walk_at "rd"
    refine kQ co ?_ v H2 (up b2) (IsCoat.up dn_same is)
    unfold readCoat
    rw [he']
    simp only
    rw [if_pos (List.drop_eq_nil_of_le c1')]
end
end Hc

namespace Hc
open PySem PySem.Spec PyProof.Rows L2
open Sh ShMarsh
set_option hygiene false
local macro_rules | `(tactic| walk_at "hp") => `(tactic| first | assumption | exact Src.ob (by assumption) | exact Rdr.ob (by assumption) | exact upd_same)
local macro_rules | `(tactic| walk_at "sq") => `(tactic| first | assumption | exact Src.sq (by assumption) | exact Rdr.sq (by assumption) | exact SqL.of (by assumption) | exact SqL.of upd_same | exact SqT.of (by assumption) | exact SqT.of upd_same)
local macro_rules | `(tactic| walk_at "cl") => `(tactic| with_reducible first | exact T.c_Bytes | exact T.c_Coat | exact T.c_Arms | exact T.c_Layer | exact T.c_Token | exact T.c_Reader | exact T.c_Words)
local macro_rules | `(tactic| walk_at "na") => `(tactic| with_reducible first | exact T.n_Bytes_some | exact T.n_Bytes_at | exact T.n_Coat_kind | exact T.n_Coat_arms | exact T.n_Coat_canton | exact T.n_Coat_marks | exact T.n_Coat_coats | exact T.n_Arms_field | exact T.n_Arms_layers | exact T.n_Layer_kind | exact T.n_Layer_numbers | exact T.n_Layer_fill | exact T.n_Token_kind | exact T.n_Token_value | exact T.n_Token_place | exact T.n_Token_behind | exact T.n_Reader_some | exact T.n_Reader_at | exact T.n_Reader_end | exact T.n_Words_some | exact T.n_Words_at)
local macro_rules | `(tactic| walk_at "ai") => `(tactic| first | assumption | exact atI_nat (by assumption) | rfl)
local macro_rules | `(tactic| walk_at "rd1") => `(tactic| first
  | refine ⟨_, rfl, ?_⟩
  | refine ⟨rfl, ?_⟩
  | refine ⟨_, _, rfl, rfl, ?_⟩
  | refine ⟨_, _, _, _, _, rfl, (by walk_at "hp"), (by walk_at "cl"), (by walk_at "na"), (by rfl), ?_⟩
  | refine ⟨_, _, _, _, rfl, (by walk_at "hp"), (by walk_at "cl"), (by walk_at "na"), Nat.le_of_ble_eq_true rfl, ?_⟩
  | refine ⟨_, _, _, _, rfl, rfl, (by walk_at "sq"), (by walk_at "ai"), ?_⟩
  | refine ⟨_, _, rfl, (by first | exact Or.inl (by walk_at "sq") | exact Or.inr (by walk_at "sq")), ?_⟩
  | refine ⟨(by walk_at "ar"), ?_⟩)
local macro_rules | `(tactic| walk_at "ar") => `(tactic| first | exact (show CDiv _ _ from ⟨by decide, by decide⟩) | exact (show (0 : Int) < _ from by decide) | exact (show CMul _ _ from .inl ⟨by omega, by omega⟩) | exact (show CMul _ _ from .inr ⟨by omega, by omega⟩))
local macro_rules | `(tactic| walk_at "rd") => `(tactic| repeat walk_at "rd1")
local macro_rules | `(tactic| walk_at "fa") => `(tactic| first | exact ⟨_, rfl, (by omega), rfl⟩ | exact ⟨_, _, rfl, (by omega), rfl⟩ | exact ⟨_, _, _, rfl, (by omega), rfl⟩ | exact ⟨_, _, _, _, rfl, (by omega), rfl⟩ | exact ⟨_, _, _, _, _, rfl, (by omega), rfl⟩)
local macro_rules | `(tactic| walk_at "vr") => `(tactic| first
  | exact v_var (by rfl)
  | exact v_c
  | (apply v_i0 <;> walk_at "vr")
  | (apply v_i <;> first | walk_at "ar" | walk_at "vr")
  | (apply v_neg <;> walk_at "vr")
  | (apply v_eq <;> walk_at "vr")
  | (apply v_eqB <;> walk_at "vr")
  | (apply v_ne <;> walk_at "vr")
  | (apply v_neB <;> walk_at "vr")
  | (apply v_chain (g := fun _ _ => _) (g' := fun _ _ => _) <;> walk_at "vr")
  | (apply v_and <;> walk_at "vr")
  | (apply v_or <;> walk_at "vr")
  | (apply v_not <;> walk_at "vr")
  | (apply v_ifI <;> walk_at "vr")
  | (apply v_ifB <;> walk_at "vr")
  | (apply v_call <;> first | walk_at "fa" | walk_at "vr")
  | (apply v_abs <;> walk_at "vr")
  | (apply v_min <;> walk_at "vr")
  | exact va_nil
  | (apply va_cons <;> walk_at "vr")
  | (apply a_test <;> walk_at "vr")
  | (apply a_B <;> walk_at "vr")
  | (apply a_and <;> walk_at "vr")
  | (apply a_or <;> walk_at "vr")
  | (apply a_not <;> walk_at "vr"))
local macro_rules | `(tactic| walk_at "rs") => `(tactic| first
  | (apply r_ret; walk_at "vr")
  | (apply r_set; walk_at "vr"; walk_at "rs")
  | (apply r_ifI; walk_at "vr"; intro _; walk_at "rs"; intro _; walk_at "rs")
  | (apply r_ifB; walk_at "vr"; intro _; walk_at "rs"; intro _; walk_at "rs"))

section
variable {P : Program} {w : World} {K : PySem.W.Frag} {mg : Str → Option Value} {base : Heap}
/-- a coat, so deep at most, handed to a def that gives a number for it -/
def spNum (K : PySem.W.Frag) (f : Coat → Nat) (d : Nat) : Sp := fun vs H Q _ => ∃ (v : V) (c : Coat), vs = [v] ∧ IsCoat K H v c ∧ WfCoat c ∧ c.deep ≤ d ∧ ∀ H', Same H H' → Q (.int (f c : Int)) H'
theorem spNum_never {K : PySem.W.Frag} {f : Coat → Nat} : ∀ vs H Q E, spNum K f 0 vs H Q E → False := fun vs H Q E ⟨v, c, _, _, _, h, _⟩ => by
  have := deep_pos c
  omega
/-- the numbers of the coats, one by one -/
theorem num_list {K : PySem.W.Frag} {f : Coat → Nat} {d : Nat} {H : Hp} {vs : List V} {ls : List Coat} {σ : L2.St} {E : XK} {j : Nat} {Q : VK} {tl : TE} (htl : ∀ Q' : VK, (∀ cl H1, Same H H1 → H1 cl = some (.lst vs) → Q' (.ref cl) H1) → tl σ H Q') (hv : IsCoats K H vs ls) (hw : WfCoats ls) (hd : deepest ls ≤ d) (hl : ls.length ≤ 9)
    (hj : ∀ v : V, (((wipe σ [j]).set j (some v))[j]? = some (some v)))
    (k : ∀ D H', Same H H' → H' D = some (.lst ((ls.map fun c => (f c : Int)).map V.int)) → Q (.ref D) H') :
    tLc (iList K tl) (gName j) tYes (tCall (spNum K f d) [] E (tCons (tVar j) tNil)) [j] σ H Q := by
  refine htl _ fun cl H1 sa1 hc => ?_
  refine ⟨cl, rfl, ⟨_, SqL.of hc⟩, fun D nD1 => lc_list (K := K) (a := cl) (xs := vs) (fun i H' => Same H1 H' ∧ H' D = some (.lst (((ls.take i).map fun c => (f c : Int)).map V.int))) ⟨Hc.Same.new (Same.refl H1) nD1, upd_same⟩ (fun i H' _ p => p.1.seq (SqL.of hc)) ?_ ?_⟩
  · rintro i v H' hi ⟨sa1', hD⟩
    have sa : Same H H' := fun b o h => sa1' b o (sa1 b o h)
    obtain ⟨c, hci, isc⟩ := hv.get hi
    have il : i < ls.length := (List.getElem?_eq_some_iff.mp hci).1
    refine ⟨?_, ?_⟩
    · show ((σ.set j none).set j (some v)).set j none = σ.set j none
      simp
    · refine ⟨v, hj v, ?_⟩
      refine ⟨v, c, rfl, IsCoat.up sa isc, hw.get hci, Nat.le_trans (deep_get hci) hd, fun H2 sa2 => ?_⟩
      have hD2 := sa2 _ _ hD
      refine ⟨_, hD2, ?_, ?_, ?_⟩
      · rw [List.length_map, List.length_map, List.length_take]
        exact Nat.lt_of_le_of_lt (by omega : _ ≤ 9) (by decide)
      · intro b o h
        rw [upd_ne (ne_of_none h nD1)]
        exact sa2 _ _ (sa1' _ _ h)
      · rw [upd_same, take_more hci]
        simp
  · rintro H' ⟨sa1', hD⟩
    rw [hv.len, List.take_length] at hD
    exact k D H' (fun b o h => sa1' b o (sa1 b o h)) hD
theorem step_how_many_parts (T : Txt w K mg) (d : Nat) (u_how_many_parts : Cal P w K mg base CX0 (1 + d) "how_many_parts" p_how_many_parts (spNum K Coat.parts d)) : Cal P w K mg base CX0 (1 + d + 1) "how_many_parts" p_how_many_parts (spNum K Coat.parts (d + 1)) := by
  refine T.d_how_many_parts.cal sc_how_many_parts (fun vs H Q E h => by obtain ⟨_, _, rfl, _⟩ := h; rfl) ?_
  intro cdv A outer s0 H vs Q E hr h
  have nd := sc_how_many_parts.nd
  have po := poX (CX := CX0) (P := P) (w := w) (K := K) (mg := mg) (base := base) (N := n_how_many_parts) (q := "how_many_parts") (sc := defScope s_how_many_parts) (f := He.ga K "how_many_parts") (cdv := cdv) (A := A) (outer := outer) (s := s0) (H := H) (E := E)
  have h_how_many_parts : Room (1+d) _ := hr.mono (by omega)
  refine ⟨_, (pss_one (ps_ret (pe_ifExp (pt_cmpR op_eq (pe_fld (pv 0) rfl) (pe_gi T.i_MARKED) (nomark _)) pe_int (pe_callB (cr_sum rfl) (by rfl) T.f_sum (by decide +kernel) (pa_cons (pe_lc (own := [("one", 1)]) (g := gName 1) (tt := tYes) rfl nd (pi_list (pe_fld (pv 0) rfl)) (blkOk_by (own := [("one", 1)]) (N := n_how_many_parts) (sc := defScope s_how_many_parts) (by decide +kernel)) (fun _ _ _ _ _ => pg_name (i := 1) nd rfl (Or.inl rfl)) (fun _ _ _ _ _ => pts_nil) (fun _ _ _ _ _ => (pe_cal u_how_many_parts (h_how_many_parts) (p0X (E := E0)) (pa_cons (pv 1) pa_nil)))) pa_nil))))), ?_⟩
  try dsimp only [cxOf]
  clear h_how_many_parts po nd
  obtain ⟨v, c, rfl, is, wf, hd, k⟩ := h
  obtain ⟨x, dx, ml, cl, av, cv, ms, vs, rfl, hx, hm, hc, hv⟩ := coat_open is
  walk_at "rd"
  refine iteB (fun c1 => ?_) fun c1 => ?_
  · have c1' : kindN c = 0 := by
      have z := of_decide_eq_true c1
      have z' : V.int (kindN c : Int) = V.int 0 := z
      injection z' with z'
      omega
    obtain ⟨m, rfl⟩ := kind_0 c1'
    exact k H (Same.refl H)
  · have c1' : kindN c ≠ 0 := fun z => by
      rw [z] at c1
      simp [iv] at c1
    dsimp only [tCB, tCons]
    refine num_list (j := 1) (fun Q' q => ⟨_, rfl, x, _, dx, _, _, rfl, hx, T.c_Coat, T.n_Coat_coats, rfl, q cl H (Same.refl H) hc⟩) hv (wf_subs wf).1 (by have := deep_subs c1'; omega) (wf_subs wf).2 (fun v => rfl) fun D H' sa hD => ?_
    refine ⟨D, _, rfl, SqL.of hD, ?_⟩
    rw [← partsOf_sum, ← parts_subs c1']
    exact k H' sa
theorem all_how_many_parts (T : Txt w K mg) : ∀ d : Nat, Cal P w K mg base CX0 (1 + d) "how_many_parts" p_how_many_parts (spNum K Coat.parts d)
  | 0 => by
    obtain ⟨⟨fd, F, b⟩, g⟩ := T.d_how_many_parts
    exact ⟨⟨fd, ⟨fun _ _ _ _ h => (spNum_never _ _ _ _ h).elim, fun _ _ _ _ _ _ _ _ _ _ _ _ _ h => (spNum_never _ _ _ _ h).elim⟩, b⟩, g, F.kp⟩
  | d + 1 => step_how_many_parts T d (all_how_many_parts T d)
end
end Hc

namespace Hc
open PySem PySem.Spec PyProof.Rows L2
open Sh ShMarsh
set_option hygiene false
local macro_rules | `(tactic| walk_at "hp") => `(tactic| first | assumption | exact Src.ob (by assumption) | exact Rdr.ob (by assumption) | exact upd_same)
local macro_rules | `(tactic| walk_at "sq") => `(tactic| first | assumption | exact Src.sq (by assumption) | exact Rdr.sq (by assumption) | exact SqL.of (by assumption) | exact SqL.of upd_same | exact SqT.of (by assumption) | exact SqT.of upd_same)
local macro_rules | `(tactic| walk_at "cl") => `(tactic| with_reducible first | exact T.c_Bytes | exact T.c_Coat | exact T.c_Arms | exact T.c_Layer | exact T.c_Token | exact T.c_Reader | exact T.c_Words)
local macro_rules | `(tactic| walk_at "na") => `(tactic| with_reducible first | exact T.n_Bytes_some | exact T.n_Bytes_at | exact T.n_Coat_kind | exact T.n_Coat_arms | exact T.n_Coat_canton | exact T.n_Coat_marks | exact T.n_Coat_coats | exact T.n_Arms_field | exact T.n_Arms_layers | exact T.n_Layer_kind | exact T.n_Layer_numbers | exact T.n_Layer_fill | exact T.n_Token_kind | exact T.n_Token_value | exact T.n_Token_place | exact T.n_Token_behind | exact T.n_Reader_some | exact T.n_Reader_at | exact T.n_Reader_end | exact T.n_Words_some | exact T.n_Words_at)
local macro_rules | `(tactic| walk_at "ai") => `(tactic| first | assumption | exact atI_nat (by assumption) | rfl)
local macro_rules | `(tactic| walk_at "rd1") => `(tactic| first
  | refine ⟨_, rfl, ?_⟩
  | refine ⟨rfl, ?_⟩
  | refine ⟨_, _, rfl, rfl, ?_⟩
  | refine ⟨_, _, _, _, _, rfl, (by walk_at "hp"), (by walk_at "cl"), (by walk_at "na"), (by rfl), ?_⟩
  | refine ⟨_, _, _, _, rfl, (by walk_at "hp"), (by walk_at "cl"), (by walk_at "na"), Nat.le_of_ble_eq_true rfl, ?_⟩
  | refine ⟨_, _, _, _, rfl, rfl, (by walk_at "sq"), (by walk_at "ai"), ?_⟩
  | refine ⟨_, _, rfl, (by first | exact Or.inl (by walk_at "sq") | exact Or.inr (by walk_at "sq")), ?_⟩
  | refine ⟨(by walk_at "ar"), ?_⟩)
local macro_rules | `(tactic| walk_at "ar") => `(tactic| first | exact (show CDiv _ _ from ⟨by decide, by decide⟩) | exact (show (0 : Int) < _ from by decide) | exact (show CMul _ _ from .inl ⟨by omega, by omega⟩) | exact (show CMul _ _ from .inr ⟨by omega, by omega⟩))
local macro_rules | `(tactic| walk_at "rd") => `(tactic| repeat walk_at "rd1")
local macro_rules | `(tactic| walk_at "fa") => `(tactic| first | exact ⟨_, rfl, (by omega), rfl⟩ | exact ⟨_, _, rfl, (by omega), rfl⟩ | exact ⟨_, _, _, rfl, (by omega), rfl⟩ | exact ⟨_, _, _, _, rfl, (by omega), rfl⟩ | exact ⟨_, _, _, _, _, rfl, (by omega), rfl⟩)
local macro_rules | `(tactic| walk_at "vr") => `(tactic| first
  | exact v_var (by rfl)
  | exact v_c
  | (apply v_i0 <;> walk_at "vr")
  | (apply v_i <;> first | walk_at "ar" | walk_at "vr")
  | (apply v_neg <;> walk_at "vr")
  | (apply v_eq <;> walk_at "vr")
  | (apply v_eqB <;> walk_at "vr")
  | (apply v_ne <;> walk_at "vr")
  | (apply v_neB <;> walk_at "vr")
  | (apply v_chain (g := fun _ _ => _) (g' := fun _ _ => _) <;> walk_at "vr")
  | (apply v_and <;> walk_at "vr")
  | (apply v_or <;> walk_at "vr")
  | (apply v_not <;> walk_at "vr")
  | (apply v_ifI <;> walk_at "vr")
  | (apply v_ifB <;> walk_at "vr")
  | (apply v_call <;> first | walk_at "fa" | walk_at "vr")
  | (apply v_abs <;> walk_at "vr")
  | (apply v_min <;> walk_at "vr")
  | exact va_nil
  | (apply va_cons <;> walk_at "vr")
  | (apply a_test <;> walk_at "vr")
  | (apply a_B <;> walk_at "vr")
  | (apply a_and <;> walk_at "vr")
  | (apply a_or <;> walk_at "vr")
  | (apply a_not <;> walk_at "vr"))
local macro_rules | `(tactic| walk_at "rs") => `(tactic| first
  | (apply r_ret; walk_at "vr")
  | (apply r_set; walk_at "vr"; walk_at "rs")
  | (apply r_ifI; walk_at "vr"; intro _; walk_at "rs"; intro _; walk_at "rs")
  | (apply r_ifB; walk_at "vr"; intro _; walk_at "rs"; intro _; walk_at "rs"))

local macro_rules | `(tactic| walk_at "na") => `(tactic| with_reducible first | exact T.n_Spot_number | exact T.n_Spot_coat | exact T.n_Spot_p | exact T.n_Spot_r | exact T.n_Coat_kind | exact T.n_Coat_coats)
local macro_rules | `(tactic| walk_at "cl") => `(tactic| with_reducible first | exact T.c_Coat | exact T.c_Spot)
section
variable {P : Program} {w : World} {K : PySem.W.Frag} {mg : Str → Option Value} {base : Heap}
def spotF (a b c d : V) : List (Str × V) := [("number", a), ("coat", b), ("p", c), ("r", d)]
def spI_Spot (K : PySem.W.Frag) : Sp := fun vs H Q _ => ∃ (x dx : Addr) (a b c d : V), vs = [.ref x, a, b, c, d] ∧ H x = some (.ins (He.ga K "Spot") dx []) ∧ ∀ H', Bt x H H' → H' x = some (.ins (He.ga K "Spot") dx (spotF a b c d)) → Q .non H'
theorem ok_Spot_init (T : Txt w K mg) : Mak P w K mg base 1 "Spot" p_Spot_init (spI_Spot K) := by
  refine ⟨T.di_Spot.ok sc_Spot_init (fun vs H Q E h => by obtain ⟨_, _, _, _, _, _, rfl, _⟩ := h; rfl) ?_, T.m_Spot, T.g_Spot⟩
  intro cdv A outer s0 H vs Q E hr h
  refine ⟨_, (pss_cons (ps_fld (pv 0) (pv 1) rfl)
      (pss_cons (ps_fld (pv 0) (pv 2) rfl)
      (pss_cons (ps_fld (pv 0) (pv 3) rfl)
      (pss_one (ps_fld (pv 0) (pv 4) rfl))))), ?_⟩
  try dsimp only [cxOf]
  obtain ⟨x, dx, a, b, c, d, rfl, hx, k⟩ := h
  walk_at "rd"
  exact k _ (Bt.refl.put.put.put.put) upd_same
theorem mk_Spot {K : PySem.W.Frag} {H1 : Hp} {Q : Addr → Hp → Prop} {E : XK} {a b c d : V} (k : ∀ x dx H', H1 x = none → Same H1 H' → H' x = some (.ins (He.ga K "Spot") dx (spotF a b c d)) → Q x H') :
    ∀ x dx, H1 x = none → H1 dx = none → dx ≠ x → spI_Spot K (.ref x :: ([a, b, c, d] ++ [])) (upd (upd H1 dx (.own x)) x (.ins (He.ga K "Spot") dx [])) (fun v H2 => v = .non ∧ Q x H2) E :=
  fun x dx nx nd ne => ⟨x, dx, a, b, c, d, rfl, upd_same, fun H' e h => ⟨rfl, k x dx H' nx (Same.made2 nx nd e) h⟩⟩
def spSide : Sp := fun vs H Q _ => ∃ n : Nat, vs = [.int (n : Int)] ∧ 1 ≤ n ∧ n ≤ 9 ∧ Q (.int (side n : Int)) H
theorem ok_side_of (T : Txt w K mg)  : Cal P w K mg base CX0 1 "side_of" p_side_of spSide := by
  refine T.d_side_of.cal sc_side_of (fun vs H Q E h => by obtain ⟨_, rfl, _⟩ := h; rfl) ?_
  intro cdv A outer s0 H vs Q E hr h
  have nd := sc_side_of.nd
  have po := poX (CX := CX0) (P := P) (w := w) (K := K) (mg := mg) (base := base) (N := n_side_of) (q := "side_of") (sc := defScope s_side_of) (f := He.ga K "side_of") (cdv := cdv) (A := A) (outer := outer) (s := s0) (H := H) (E := E)
  refine ⟨_, (pss_cons (ps_set (i := 1) nd rfl (Or.inl rfl) pe_int)
      (pss_cons (ps_while po (pt_cmpR op_lt (pe_op op_mul (pv 1) (pv 1)) (pv 0) (nomark _)) (pss_one (ps_set (i := 1) nd rfl (Or.inl rfl) (pe_op op_add (pv 1) pe_int))))
      (pss_one (ps_ret (pv 1))))), ?_⟩
  try dsimp only [cxOf]
  clear po nd
  obtain ⟨n, rfl, h1, h9, k⟩ := h
  walk_at "rd"
  refine ⟨fun m σ H' => H' = H ∧ ∃ s : Nat, σ = [some (.int (n : Int)), some (.int (s : Int))] ∧ 1 ≤ s ∧ s ≤ 3 ∧ (s - 1) * (s - 1) < n ∧ m = 3 - s, ⟨2, rfl, 1, rfl, by omega, by omega, by omega, rfl⟩, ?_⟩
  rintro m σ H' ⟨rfl, s, rfl, s1, s3, hs, rfl⟩
  walk_at "rd"
  have c3 : s = 1 ∨ s = 2 ∨ s = 3 := by omega
  refine iteB (fun c => ?_) fun c => ?_
  · have c' := of_decide_eq_true c
    refine ⟨_, fun σ' H' z => z, ?_⟩
    walk_at "rd"
    rcases c3 with rfl | rfl | rfl
    · exact ⟨1, by omega, rfl, 2, rfl, by omega, by omega, by omega, rfl⟩
    · exact ⟨0, by omega, rfl, 3, rfl, by omega, by omega, by omega, rfl⟩
    · omega
  · have c' := of_decide_eq_false c
    walk_at "rd"
    have e : side n = s := by
      unfold side
      rcases c3 with rfl | rfl | rfl
      · rw [if_pos (by omega)]
      · rw [if_neg (by omega), if_pos (by omega)]
      · rw [if_neg (by omega), if_neg (by omega)]
    rw [← e]
    exact k
/-- three numbers handed back in a tuple -/
def spPlace (K : PySem.W.Frag) (ok : Coat → Prop) (f : Coat → Nat → Nat → Nat × Nat × Nat) : Sp := fun vs H Q _ => ∃ (v : V) (c : Coat) (p r : Nat), vs = [v, .int (p : Int), .int (r : Int)] ∧ IsCoat K H v c ∧ WfCoat c ∧ ok c ∧ p < 480 ∧ r < 576 ∧
  ∀ t H', Same H H' → H' t = some (.tup [iv (f c p r).1, iv (f c p r).2.1, iv (f c p r).2.2]) → Q (.ref t) H'
theorem ok_quarter_at (T : Txt w K mg) (u_side_of : Cal P w K mg base CX0 1 "side_of" p_side_of spSide) : Cal P w K mg base CX0 2 "quarter_at" p_quarter_at (spPlace K (fun c => kindN c = 1) withinN) := by
  refine T.d_quarter_at.cal sc_quarter_at (fun vs H Q E h => by obtain ⟨_, _, _, _, rfl, _⟩ := h; rfl) ?_
  intro cdv A outer s0 H vs Q E hr h
  have nd := sc_quarter_at.nd
  have po := poX (CX := CX0) (P := P) (w := w) (K := K) (mg := mg) (base := base) (N := n_quarter_at) (q := "quarter_at") (sc := defScope s_quarter_at) (f := He.ga K "quarter_at") (cdv := cdv) (A := A) (outer := outer) (s := s0) (H := H) (E := E)
  have h_side_of : Room (1) _ := hr.mono (by omega)
  refine ⟨_, (pss_cons (ps_set (i := 3) nd rfl (Or.inl rfl) (pe_cal u_side_of (h_side_of) (p0X (E := E0)) (pa_cons (pe_callB call_len_seq (by rfl) T.f_len PySem.boot_len (pa_cons (pe_fld (pv 0) rfl) pa_nil)) pa_nil)))
      (pss_cons (ps_set (i := 4) nd rfl (Or.inl rfl) (pe_op op_add (pe_op op_mul (pe_op op_fdiv (pe_op op_mul (pv 2) (pv 3)) (pe_gi T.i_HIGH)) (pv 3)) (pe_op op_fdiv (pe_op op_mul (pv 1) (pv 3)) (pe_gi T.i_WIDE))))
      (pss_one (ps_ret (pe_tup (pa_cons (pe_ifExp (pt_cmpR op_lt (pv 4) (pe_callB call_len_seq (by rfl) T.f_len PySem.boot_len (pa_cons (pe_fld (pv 0) rfl) pa_nil)) (nomark _)) (pv 4) pe_int) (pa_cons (pe_op op_mod (pe_op op_mul (pv 1) (pv 3)) (pe_gi T.i_WIDE)) (pa_cons (pe_op op_mod (pe_op op_mul (pv 2) (pv 3)) (pe_gi T.i_HIGH)) pa_nil)))))))), ?_⟩
  try dsimp only [cxOf]
  clear h_side_of po nd
  obtain ⟨v, c, p, r, rfl, is, wf, hk, hp, hr, k⟩ := h
  obtain ⟨x, dx, ml, cl, av, cv, ms, vs, rfl, hx, hm, hc, hv⟩ := coat_open is
  have hl9 := (wf_subs wf).2
  have hl0 : 1 ≤ (subs c).length := by
    cases q : subs c with
    | nil => exact absurd q (wf_ne wf (by omega))
    | cons _ _ => simp
  walk_at "rd"
  rw [hv.len]
  refine ⟨hl0, hl9, ?_⟩
  have hs := side_ge (subs c).length
  have ew : withinN c p r = quartN (subs c).length p r := by
    cases c with
    | quarters l => rfl
    | one m => cases hk
    | impaled a b => cases hk
    | pretence a b => cases hk
  rw [ew] at k
  unfold quartN at k
  generalize side (subs c).length = sd at *
  have g1 : 0 ≤ (r : Int) * sd ∧ (r : Int) * sd / 576 < 4 ∧ 0 ≤ (r : Int) * sd / 576 := by
    have e : (r : Int) * sd = ((r * sd : Nat) : Int) := by simp
    have e2 : r * sd ≤ 576 * 3 := Nat.mul_le_mul (by omega) hs.2
    rw [e]
    omega
  have e1 : (r : Int) * sd / 576 * sd + (p : Int) * sd / 480 = ((r * sd / 576 * sd + p * sd / 480 : Nat) : Int) := by simp
  have e2 : (p : Int) * sd % 480 = ((p * sd % 480 : Nat) : Int) := by simp
  have e3 : (r : Int) * sd % 576 = ((r * sd % 576 : Nat) : Int) := by simp
  walk_at "rd"
  refine iteB (fun c1 => ?_) fun c1 => ?_
  · have c1' : r * sd / 576 * sd + p * sd / 480 < (subs c).length := by
      have z := of_decide_eq_true c1
      rw [e1, hv.len] at z
      omega
    rw [if_pos c1'] at k
    walk_at "rd"
    refine ⟨by show 3 ≤ sizeLine; decide, fun t ht => k t _ (Hc.Same.new (Same.refl H) ht) ?_⟩
    rw [upd_same]
    show some (HO.tup [V.int ((r : Int) * sd / 576 * sd + (p : Int) * sd / 480), V.int ((p : Int) * sd % 480), V.int ((r : Int) * sd % 576)]) = _
    rw [e1, e2, e3]
    rfl
  · have c1' : ¬ r * sd / 576 * sd + p * sd / 480 < (subs c).length := by
      have z := of_decide_eq_false c1
      rw [e1, hv.len] at z
      omega
    rw [if_neg c1'] at k
    walk_at "rd"
    refine ⟨by show 3 ≤ sizeLine; decide, fun t ht => k t _ (Hc.Same.new (Same.refl H) ht) ?_⟩
    rw [upd_same]
    show some (HO.tup [V.int 0, V.int ((p : Int) * sd % 480), V.int ((r : Int) * sd % 576)]) = _
    rw [e2, e3]
    rfl
theorem ok_within (T : Txt w K mg) (u_quarter_at : Cal P w K mg base CX0 2 "quarter_at" p_quarter_at (spPlace K (fun c => kindN c = 1) withinN)) : Cal P w K mg base CX0 3 "within" p_within (spPlace K (fun c => kindN c ≠ 0) withinN) := by
  refine T.d_within.cal sc_within (fun vs H Q E h => by obtain ⟨_, _, _, _, rfl, _⟩ := h; rfl) ?_
  intro cdv A outer s0 H vs Q E hr h
  have nd := sc_within.nd
  have po := poX (CX := CX0) (P := P) (w := w) (K := K) (mg := mg) (base := base) (N := n_within) (q := "within") (sc := defScope s_within) (f := He.ga K "within") (cdv := cdv) (A := A) (outer := outer) (s := s0) (H := H) (E := E)
  have h_quarter_at : Room (2) _ := hr.mono (by omega)
  refine ⟨_, (pss_cons (ps_if (pt_cmpR op_eq (pe_fld (pv 0) rfl) (pe_gi T.i_QUARTERLY) (nomark _)) (pss_one (ps_ret (pe_cal u_quarter_at (h_quarter_at) (p0X (E := E0)) (pa_cons (pv 0) (pa_cons (pv 1) (pa_cons (pv 2) pa_nil)))))) pss_nil)
      (pss_cons (ps_if (pt_cmpR op_eq (pe_fld (pv 0) rfl) (pe_gi T.i_IMPALED) (nomark _)) (pss_one (ps_ret (pe_ifExp (pt_cmpR op_lt (pv 1) pe_int (nomark _)) (pe_tup (pa_cons pe_int (pa_cons (pe_op op_mul pe_int (pv 1)) (pa_cons (pv 2) pa_nil)))) (pe_tup (pa_cons pe_int (pa_cons (pe_op op_mul pe_int (pe_op op_sub (pv 1) pe_int)) (pa_cons (pv 2) pa_nil))))))) pss_nil)
      (pss_cons (ps_if (PW.pt (pw_and (pt_chain op_le op_lt pe_int (pv 1) pe_int) (pw_and1 (pt_chain op_le op_lt pe_int (pv 2) pe_int)))) (pss_one (ps_ret (pe_tup (pa_cons pe_int (pa_cons (pe_op op_mul pe_int (pe_op op_sub (pv 1) pe_int)) (pa_cons (pe_op op_mul pe_int (pe_op op_sub (pv 2) pe_int)) pa_nil)))))) pss_nil)
      (pss_one (ps_ret (pe_tup (pa_cons pe_int (pa_cons (pv 1) (pa_cons (pv 2) pa_nil))))))))), ?_⟩
  try dsimp only [cxOf]
  clear h_quarter_at po nd
  obtain ⟨v, c, p, r, rfl, is, wf, hk, hp, hr, k⟩ := h
  obtain ⟨x, dx, ml, cl, av, cv, ms, vs, rfl, hx, hm, hc, hv⟩ := coat_open is
  walk_at "rd"
  refine iteB (fun c1 => ?_) fun c1 => ?_
  · have c1' : kindN c = 1 := by
      have z := of_decide_eq_true c1
      have z' : V.int (kindN c : Int) = V.int 1 := z
      injection z' with z'
      omega
    exact ⟨_, rfl, _, rfl, _, rfl, .ref x, c, p, r, rfl, is, wf, c1', hp, hr, k⟩
  · have n1 : kindN c ≠ 1 := fun z => by
      rw [z] at c1
      simp [iv] at c1
    walk_at "rd"
    refine iteB (fun c2 => ?_) fun c2 => ?_
    · have c2' : kindN c = 2 := by
        have z := of_decide_eq_true c2
        have z' : V.int (kindN c : Int) = V.int 2 := z
        injection z' with z'
        omega
      cases c with
      | one m => cases c2'
      | quarters l => cases c2'
      | pretence a b => cases c2'
      | impaled a b =>
        walk_at "rd"
        refine iteB (fun c3 => ?_) fun c3 => ?_
        · have c3' : p < 240 := by
            have z := of_decide_eq_true c3
            omega
          walk_at "rd"
          refine ⟨by show 3 ≤ sizeLine; decide, fun t ht => k t _ (Hc.Same.new (Same.refl H) ht) ?_⟩
          rw [upd_same]
          simp only [withinN]
          rw [if_pos c3']
          show some (HO.tup [V.int 0, V.int (2 * (p : Int)), V.int (r : Int)]) = some (HO.tup [V.int ((0 : Nat) : Int), V.int ((2 * p : Nat) : Int), V.int (r : Int)])
          rw [show ((2 * p : Nat) : Int) = 2 * (p : Int) by simp]
          rfl
        · have c3' : ¬ p < 240 := by
            have z := of_decide_eq_false c3
            omega
          walk_at "rd"
          refine ⟨by show 3 ≤ sizeLine; decide, fun t ht => k t _ (Hc.Same.new (Same.refl H) ht) ?_⟩
          rw [upd_same]
          simp only [withinN]
          rw [if_neg c3']
          show some (HO.tup [V.int 1, V.int (2 * ((p : Int) - 240)), V.int (r : Int)]) = some (HO.tup [V.int ((1 : Nat) : Int), V.int ((2 * (p - 240) : Nat) : Int), V.int (r : Int)])
          rw [show ((2 * (p - 240) : Nat) : Int) = 2 * ((p : Int) - 240) by omega]
          rfl
    · have n2 : kindN c ≠ 2 := fun z => by
        rw [z] at c2
        simp [iv] at c2
      cases c with
      | one m => exact absurd rfl hk
      | quarters l => exact absurd rfl n1
      | impaled a b => exact absurd rfl n2
      | pretence a b =>
        have yes : (160 ≤ p ∧ p < 320 ∧ 192 ≤ r ∧ r < 384) → ∀ t H', Same H H' → H' t = some (.tup [V.int 1, V.int (3 * ((p : Int) - 160)), V.int (3 * ((r : Int) - 192))]) → Q (.ref t) H' := fun cc t H' sa ht => k t H' sa (by
          rw [ht]
          simp only [withinN]
          rw [if_pos cc]
          show _ = some (HO.tup [V.int ((1 : Nat) : Int), V.int ((3 * (p - 160) : Nat) : Int), V.int ((3 * (r - 192) : Nat) : Int)])
          rw [show ((3 * (p - 160) : Nat) : Int) = 3 * ((p : Int) - 160) by omega, show ((3 * (r - 192) : Nat) : Int) = 3 * ((r : Int) - 192) by omega]
          rfl)
        have no : ¬ (160 ≤ p ∧ p < 320 ∧ 192 ≤ r ∧ r < 384) → ∀ t H', Same H H' → H' t = some (.tup [V.int 0, V.int (p : Int), V.int (r : Int)]) → Q (.ref t) H' := fun cc t H' sa ht => k t H' sa (by
          rw [ht]
          simp only [withinN]
          rw [if_neg cc]
          rfl)
        have key : ∀ b : Bool, b = (decide ((160 : Int) ≤ p) && decide ((p : Int) < 320) && (decide ((192 : Int) ≤ r) && decide ((r : Int) < 384))) → (b = true ↔ (160 ≤ p ∧ p < 320 ∧ 192 ≤ r ∧ r < 384)) := fun b e => by
          rw [e]
          simp
          omega
        show tSeq _ _ _ _ _
        refine An.go (a_and (a_test (v_chain (g := fun i j => decide (i ≤ j)) (g' := fun i j => decide (i < j)) v_c (v_var (by rfl)) v_c)) (a_test (v_chain (g := fun i j => decide (i ≤ j)) (g' := fun i j => decide (i < j)) v_c (v_var (by rfl)) v_c))) ?_
        refine iteB (fun c3 => ?_) fun c3 => ?_
        · have c4 := (key _ rfl).mp c3
          walk_at "rd"
          exact ⟨by show 3 ≤ sizeLine; decide, fun t ht => yes c4 t _ (Hc.Same.new (Same.refl H) ht) upd_same⟩
        · have c4 : ¬ (160 ≤ p ∧ p < 320 ∧ 192 ≤ r ∧ r < 384) := fun z => by
            have z2 := (key _ rfl).mpr z
            rw [z2] at c3
            cases c3
          walk_at "rd"
          exact ⟨by show 3 ≤ sizeLine; decide, fun t ht => no c4 t _ (Hc.Same.new (Same.refl H) ht) upd_same⟩
/-- where a point of a coat is -/
def spSpot (K : PySem.W.Frag) : Sp := fun vs H Q _ => ∃ (v : V) (c : Coat) (p r : Nat), vs = [v, .int (p : Int), .int (r : Int)] ∧ IsCoat K H v c ∧ WfCoat c ∧ c.deep ≤ 4 ∧ p < 480 ∧ r < 576 ∧
  ∀ x dx vm H' (n : Nat) (m : Marked) (p' r' : Nat), c.partAt 0 p r = (n, m, p', r') → p' < 480 → r' < 576 → WfMarked m → Same H H' → H' x = some (.ins (He.ga K "Spot") dx (spotF (iv n) vm (iv p') (iv r'))) → IsMarked K H' vm m → Q (.ref x) H'
theorem ok_spot_of (T : Txt w K mg) (u_within : Cal P w K mg base CX0 3 "within" p_within (spPlace K (fun c => kindN c ≠ 0) withinN)) (u_how_many_parts : Cal P w K mg base CX0 5 "how_many_parts" p_how_many_parts (spNum K Coat.parts 4)) (m_Spot : Mak P w K mg base 1 "Spot" p_Spot_init (spI_Spot K)) : Cal P w K mg base CX0 6 "spot_of" p_spot_of (spSpot K) := by
  refine T.d_spot_of.cal sc_spot_of (fun vs H Q E h => by obtain ⟨_, _, _, _, rfl, _⟩ := h; rfl) ?_
  intro cdv A outer s0 H vs Q E hr h
  have nd := sc_spot_of.nd
  have po := poX (CX := CX0) (P := P) (w := w) (K := K) (mg := mg) (base := base) (N := n_spot_of) (q := "spot_of") (sc := defScope s_spot_of) (f := He.ga K "spot_of") (cdv := cdv) (A := A) (outer := outer) (s := s0) (H := H) (E := E)
  have h_within : Room (3) _ := hr.mono (by omega)
  have h_how_many_parts : Room (5) _ := hr.mono (by omega)
  have h_Spot : Room (2) _ := hr.mono (by omega)
  refine ⟨_, (pss_cons (ps_set (i := 3) nd rfl (Or.inl rfl) pe_int)
      (pss_cons (ps_while po (pt_cmpR op_ne (pe_fld (pv 0) rfl) (pe_gi T.i_MARKED) (nomark _)) (pss_cons (ps_asg (pe_cal u_within (h_within) (p0X (E := E0)) (pa_cons (pv 0) (pa_cons (pv 1) (pa_cons (pv 2) pa_nil)))) (pg_tup rfl (pgs_cons (pg_name (i := 4) nd rfl (Or.inl rfl)) (pgs_cons (pg_name (i := 1) nd rfl (Or.inl rfl)) (pgs_cons (pg_name (i := 2) nd rfl (Or.inl rfl)) pgs_nil)))))
      (pss_cons (ps_set (i := 3) nd rfl (Or.inl rfl) (pe_op op_add (pv 3) (pe_callB (cr_sum rfl) (by rfl) T.f_sum (by decide +kernel) (pa_cons (pe_lc (own := [("one", 5)]) (g := gName 5) (tt := tYes) rfl nd (pi_list (pe_slice sl_list (pe_fld (pv 0) rfl) po_none (po_some (pv 4)))) (blkOk_by (own := [("one", 5)]) (N := n_spot_of) (sc := defScope s_spot_of) (by decide +kernel)) (fun _ _ _ _ _ => pg_name (i := 5) nd rfl (Or.inl rfl)) (fun _ _ _ _ _ => pts_nil) (fun _ _ _ _ _ => (pe_cal u_how_many_parts (h_how_many_parts) (p0X (E := E0)) (pa_cons (pv 5) pa_nil)))) pa_nil))))
      (pss_one (ps_set (i := 0) nd rfl (Or.inl rfl) (pe_ix ix_list (pe_fld (pv 0) rfl) (pv 4) (fun _ _ => rfl)))))))
      (pss_one (ps_ret (pe_mak m_Spot (h_Spot) (pa_cons (pv 3) (pa_cons (pv 0) (pa_cons (pv 1) (pa_cons (pv 2) pa_nil))))))))), ?_⟩
  try dsimp only [cxOf]
  clear h_Spot h_how_many_parts h_within po nd
  obtain ⟨v0, c0, p0, r0, rfl, is0, wf0, hd0, hp0, hr0, k⟩ := h
  walk_at "rd"
  refine ⟨fun m σ H' => Same H H' ∧ ∃ (v : V) (c : Coat) (p r n : Nat) (v4 v5 : Option V), σ = [some v, some (.int (p : Int)), some (.int (r : Int)), some (.int (n : Int)), v4, v5] ∧ IsCoat K H' v c ∧ WfCoat c ∧ c.deep ≤ 4 ∧ p < 480 ∧ r < 576 ∧ c0.partAt 0 p0 r0 = c.partAt n p r ∧ m = c.deep,
    ⟨c0.deep, Same.refl H, v0, c0, p0, r0, 0, none, none, rfl, is0, wf0, hd0, hp0, hr0, rfl, rfl⟩, ?_⟩
  rintro m σ H' ⟨sa, v, c, p, r, n, v4, v5, rfl, is, wf, hd, hp, hr, eq, rfl⟩
  obtain ⟨x, dx, ml, cl, av, cv, ms, vs, rfl, hx, hm, hc, hv⟩ := coat_open is
  walk_at "rd"
  refine iteB (fun c1 => ?_) fun c1 => ?_
  · have hk : kindN c ≠ 0 := fun z => by
      rw [z] at c1
      simp [iv] at c1
    refine ⟨_, fun σ' H' z => z, ?_⟩
    obtain ⟨c', hc', hp', hr', epa⟩ := within_ok wf hk hp hr
    refine ⟨_, rfl, _, rfl, _, rfl, .ref x, c, p, r, rfl, is, wf, hk, hp, hr, fun t H2 sa2 ht => ?_⟩
    refine ⟨t, _, rfl, SqT.of ht, rfl, ?_⟩
    generalize withinN c p r = wn at *
    obtain ⟨kk, p', r'⟩ := wn
    dsimp only at hc' hp' hr' epa ht
    have hx2 := sa2 _ _ hx
    have hcl2 := sa2 _ _ hc
    have hv2 := IsCoats.up sa2 hv
    have hkl : kk < (subs c).length := (List.getElem?_eq_some_iff.mp hc').1
    refine ⟨_, _, rfl, _, _, rfl, _, _, rfl, rfl, _, rfl, ?_⟩
    dsimp only [tCB, tCons]
    refine num_list (vs := vs.take kk) (ls := (subs c).take kk) (j := 5) (fun Q' q => ?_) (hv2.take kk) ((wf_subs wf).1.take kk) (by have := deep_take (ls := subs c) kk; have := deep_subs hk; omega) (by rw [List.length_take]; have := (wf_subs wf).2; omega) (fun v => rfl) fun D H3 sa3 hD => ?_
    · refine ⟨_, rfl, x, _, dx, _, _, rfl, hx2, T.c_Coat, T.n_Coat_coats, rfl, ?_⟩
      refine ⟨_, rfl, (kk : Int), rfl, cl, _, rfl, SqL.of hcl2, fun q2 hq2 => q q2 _ (Hc.Same.new (Same.refl H2) hq2) ?_⟩
      rw [upd_same, cutV_take]
    · refine ⟨D, _, rfl, SqL.of hD, ?_⟩
      rw [← partsOf_sum]
      have hx3 := sa3 _ _ hx2
      have hcl3 := sa3 _ _ hcl2
      obtain ⟨v', hv', isv⟩ : ∃ v', vs[kk]? = some v' ∧ IsCoat K H' v' c' := by
        have hl : kk < vs.length := by rw [hv.len]; exact hkl
        obtain ⟨c2, hc2, i2⟩ := hv.get (i := kk) (List.getElem?_eq_getElem hl)
        rw [hc'] at hc2
        cases hc2
        exact ⟨_, List.getElem?_eq_getElem hl, i2⟩
      walk_at "rd"
      refine ⟨c'.deep, ?_, fun b o h => sa3 _ _ (sa2 _ _ (sa _ _ h)), v', c', p', r', n + partsOf ((subs c).take kk), some (iv kk), v5, ?_, IsCoat.up sa3 (IsCoat.up sa2 isv), (wf_subs wf).1.get hc', ?_, hp', hr', ?_, rfl⟩
      · have := deep_get hc'
        have := deep_subs hk
        omega
      · show [some v', some (V.int (p' : Int)), some (V.int (r' : Int)), some (V.int ((n : Int) + ((partsOf ((subs c).take kk) : Nat) : Int))), some (V.int (kk : Int)), v5] = _
        rw [show (n : Int) + ((partsOf ((subs c).take kk) : Nat) : Int) = ((n + partsOf ((subs c).take kk) : Nat) : Int) by omega]
        rfl
      · have := deep_get hc'
        have := deep_subs hk
        omega
      · rw [eq, epa]
  · have hk : kindN c = 0 := by
      have z : kindN c = 0 ∨ kindN c = 1 ∨ kindN c = 2 ∨ kindN c = 3 := by cases c <;> simp [kindN]
      rcases z with z | z | z | z
      · exact z
      all_goals
        rw [z] at c1
        cases c1
    obtain ⟨m, rfl⟩ := kind_0 hk
    walk_at "rd"
    refine mk_Spot fun x2 dx2 H2 nx2 sa2 hx2 => ?_
    unfold IsCoat at is
    unfold WfCoat at wf
    refine k x2 dx2 (.ref x) H2 n m p r ?_ hp hr wf (fun b o h => sa2 _ _ (sa _ _ h)) hx2 (IsMarked.up sa2 is)
    rw [eq, Coat.partAt]
end
end Hc

namespace Hc
open PySem PySem.Spec PyProof.Rows L2
open Sh ShMarsh
set_option hygiene false
local macro_rules | `(tactic| walk_at "hp") => `(tactic| first | assumption | exact Src.ob (by assumption) | exact Rdr.ob (by assumption) | exact upd_same)
local macro_rules | `(tactic| walk_at "sq") => `(tactic| first | assumption | exact Src.sq (by assumption) | exact Rdr.sq (by assumption) | exact SqL.of (by assumption) | exact SqL.of upd_same | exact SqT.of (by assumption) | exact SqT.of upd_same)
local macro_rules | `(tactic| walk_at "cl") => `(tactic| with_reducible first | exact T.c_Bytes | exact T.c_Coat | exact T.c_Arms | exact T.c_Layer | exact T.c_Token | exact T.c_Reader | exact T.c_Words)
local macro_rules | `(tactic| walk_at "na") => `(tactic| with_reducible first | exact T.n_Bytes_some | exact T.n_Bytes_at | exact T.n_Coat_kind | exact T.n_Coat_arms | exact T.n_Coat_canton | exact T.n_Coat_marks | exact T.n_Coat_coats | exact T.n_Arms_field | exact T.n_Arms_layers | exact T.n_Layer_kind | exact T.n_Layer_numbers | exact T.n_Layer_fill | exact T.n_Token_kind | exact T.n_Token_value | exact T.n_Token_place | exact T.n_Token_behind | exact T.n_Reader_some | exact T.n_Reader_at | exact T.n_Reader_end | exact T.n_Words_some | exact T.n_Words_at)
local macro_rules | `(tactic| walk_at "ai") => `(tactic| first | assumption | exact atI_nat (by assumption) | rfl)
local macro_rules | `(tactic| walk_at "rd1") => `(tactic| first
  | refine ⟨_, rfl, ?_⟩
  | refine ⟨rfl, ?_⟩
  | refine ⟨_, _, rfl, rfl, ?_⟩
  | refine ⟨_, _, _, _, _, rfl, (by walk_at "hp"), (by walk_at "cl"), (by walk_at "na"), (by rfl), ?_⟩
  | refine ⟨_, _, _, _, rfl, (by walk_at "hp"), (by walk_at "cl"), (by walk_at "na"), Nat.le_of_ble_eq_true rfl, ?_⟩
  | refine ⟨_, _, _, _, rfl, rfl, (by walk_at "sq"), (by walk_at "ai"), ?_⟩
  | refine ⟨_, _, rfl, (by first | exact Or.inl (by walk_at "sq") | exact Or.inr (by walk_at "sq")), ?_⟩
  | refine ⟨(by walk_at "ar"), ?_⟩)
local macro_rules | `(tactic| walk_at "ar") => `(tactic| first | exact (show CDiv _ _ from ⟨by decide, by decide⟩) | exact (show (0 : Int) < _ from by decide) | exact (show CMul _ _ from .inl ⟨by omega, by omega⟩) | exact (show CMul _ _ from .inr ⟨by omega, by omega⟩))
local macro_rules | `(tactic| walk_at "rd") => `(tactic| repeat walk_at "rd1")
local macro_rules | `(tactic| walk_at "fa") => `(tactic| first | exact ⟨_, rfl, (by omega), rfl⟩ | exact ⟨_, _, rfl, (by omega), rfl⟩ | exact ⟨_, _, _, rfl, (by omega), rfl⟩ | exact ⟨_, _, _, _, rfl, (by omega), rfl⟩ | exact ⟨_, _, _, _, _, rfl, (by omega), rfl⟩)
local macro_rules | `(tactic| walk_at "vr") => `(tactic| first
  | exact v_var (by rfl)
  | exact v_c
  | (apply v_i0 <;> walk_at "vr")
  | (apply v_i <;> first | walk_at "ar" | walk_at "vr")
  | (apply v_neg <;> walk_at "vr")
  | (apply v_eq <;> walk_at "vr")
  | (apply v_eqB <;> walk_at "vr")
  | (apply v_ne <;> walk_at "vr")
  | (apply v_neB <;> walk_at "vr")
  | (apply v_chain (g := fun _ _ => _) (g' := fun _ _ => _) <;> walk_at "vr")
  | (apply v_and <;> walk_at "vr")
  | (apply v_or <;> walk_at "vr")
  | (apply v_not <;> walk_at "vr")
  | (apply v_ifI <;> walk_at "vr")
  | (apply v_ifB <;> walk_at "vr")
  | (apply v_call <;> first | walk_at "fa" | walk_at "vr")
  | (apply v_abs <;> walk_at "vr")
  | (apply v_min <;> walk_at "vr")
  | exact va_nil
  | (apply va_cons <;> walk_at "vr")
  | (apply a_test <;> walk_at "vr")
  | (apply a_B <;> walk_at "vr")
  | (apply a_and <;> walk_at "vr")
  | (apply a_or <;> walk_at "vr")
  | (apply a_not <;> walk_at "vr"))
local macro_rules | `(tactic| walk_at "rs") => `(tactic| first
  | (apply r_ret; walk_at "vr")
  | (apply r_set; walk_at "vr"; walk_at "rs")
  | (apply r_ifI; walk_at "vr"; intro _; walk_at "rs"; intro _; walk_at "rs")
  | (apply r_ifB; walk_at "vr"; intro _; walk_at "rs"; intro _; walk_at "rs"))

section
variable {P : Program} {w : World} {K : PySem.W.Frag} {mg : Str → Option Value} {base : Heap}
theorem lines {l : Int} (h : 0 ≤ l ∧ l ≤ 5) : l = 0 ∨ l = 1 ∨ l = 2 ∨ l = 3 ∨ l = 4 ∨ l = 5 := by omega
def spOff : Sp := spFun fun vs v => ∃ l t : Int, vs = [.int l, .int t] ∧ (0 ≤ l ∧ l ≤ 5) ∧ v = .int (off l.toNat t)
theorem ok_off (T : Txt w K mg)  : Cal P w K mg base CX0 1 "off" p_off spOff := by
  refine T.d_off.cal sc_off (fun vs H Q E h => by obtain ⟨_, ⟨_, _, rfl, _⟩, _⟩ := h; rfl) ?_
  intro cdv A outer s0 H vs Q E hr h
  have nd := sc_off.nd
  have po := poX (CX := CX0) (P := P) (w := w) (K := K) (mg := mg) (base := base) (N := n_off) (q := "off") (sc := defScope s_off) (f := He.ga K "off") (cdv := cdv) (A := A) (outer := outer) (s := s0) (H := H) (E := E)
  refine ⟨_, (pss_cons (ps_set (i := 2) nd rfl (Or.inl rfl) (pe_op op_mod (pv 1) pe_int))
      (pss_cons (ps_set (i := 3) nd rfl (Or.inl rfl) (pe_op op_sub (pe_op op_mod (pv 1) pe_int) pe_int))
      (pss_cons (ps_if (pt_cmpR op_eq (pv 0) pe_int (nomark _)) (pss_one (ps_ret (pe_ifExp (pt_cmpR op_lt (pv 2) pe_int (nomark _)) (pe_op op_sub pe_int (pe_op op_fdiv (pe_op op_mul (pv 3) (pv 3)) pe_int)) (pe_op op_sub (pe_op op_fdiv (pe_op op_mul (pv 3) (pv 3)) pe_int) pe_int)))) pss_nil)
      (pss_cons (ps_if (pt_cmpR op_eq (pv 0) pe_int (nomark _)) (pss_one (ps_ret (pe_ifExp (pt_cmpR op_lt (pv 2) pe_int (nomark _)) pe_int (pe_un un_neg pe_int)))) pss_nil)
      (pss_cons (ps_if (pt_cmpR op_eq (pv 0) pe_int (nomark _)) (pss_one (ps_ret (pe_ifExp (pt_cmpR op_lt (pv 2) pe_int (nomark _)) (pe_op op_sub (pv 2) pe_int) (pe_op op_sub pe_int (pv 2))))) pss_nil)
      (pss_cons (ps_if (pt_cmpR op_eq (pv 0) pe_int (nomark _)) (pss_one (ps_ret (pe_op op_sub (pe_op op_fdiv (pe_op op_mul (pv 3) (pv 3)) pe_int) pe_int))) pss_nil)
      (pss_cons (ps_if (pt_cmpR op_eq (pv 0) pe_int (nomark _)) (pss_one (ps_ret (pe_op op_sub pe_int (pe_op op_fdiv (pe_op op_mul (pv 3) (pv 3)) pe_int)))) pss_nil)
      (pss_one (ps_ret pe_int))))))))), ?_⟩
  try dsimp only [cxOf]
  clear po nd
  obtain ⟨_, ⟨l, t, rfl, hl, rfl⟩, k⟩ := h
  refine rt_I (j := off l.toNat t) (by walk_at "rs") ?_ k
  rcases lines hl with rfl | rfl | rfl | rfl | rfl | rfl <;> simp [off]
def spBend : Sp := spFun fun vs v => ∃ p r : Int, vs = [.int p, .int r] ∧ 0 ≤ 1 ∧ v = .int (diag p r)
theorem ok_bend_of (T : Txt w K mg)  : Cal P w K mg base CX0 1 "bend_of" p_bend_of spBend := by
  refine T.d_bend_of.cal sc_bend_of (fun vs H Q E h => by obtain ⟨_, ⟨_, _, rfl, _⟩, _⟩ := h; rfl) ?_
  intro cdv A outer s0 H vs Q E hr h
  have nd := sc_bend_of.nd
  have po := poX (CX := CX0) (P := P) (w := w) (K := K) (mg := mg) (base := base) (N := n_bend_of) (q := "bend_of") (sc := defScope s_bend_of) (f := He.ga K "bend_of") (cdv := cdv) (A := A) (outer := outer) (s := s0) (H := H) (E := E)
  refine ⟨_, (pss_one (ps_ret (pe_op op_sub (pe_op op_mul pe_int (pv 0)) (pe_op op_mul pe_int (pv 1))))), ?_⟩
  try dsimp only [cxOf]
  clear po nd
  obtain ⟨_, ⟨p, r, rfl, _, rfl⟩, k⟩ := h
  exact rt_I (j := diag p r) (by walk_at "rs") rfl k
def spFlip : Sp := spFun fun vs v => ∃ p : Int, vs = [.int p] ∧ 0 ≤ 1 ∧ v = .int (Sh.flip p)
theorem ok_other_side (T : Txt w K mg)  : Cal P w K mg base CX0 1 "other_side" p_other_side spFlip := by
  refine T.d_other_side.cal sc_other_side (fun vs H Q E h => by obtain ⟨_, ⟨_, rfl, _⟩, _⟩ := h; rfl) ?_
  intro cdv A outer s0 H vs Q E hr h
  have nd := sc_other_side.nd
  have po := poX (CX := CX0) (P := P) (w := w) (K := K) (mg := mg) (base := base) (N := n_other_side) (q := "other_side") (sc := defScope s_other_side) (f := He.ga K "other_side") (cdv := cdv) (A := A) (outer := outer) (s := s0) (H := H) (E := E)
  refine ⟨_, (pss_one (ps_ret (pe_op op_sub (pe_op op_sub (pe_gi T.i_WIDE) pe_int) (pv 0)))), ?_⟩
  try dsimp only [cxOf]
  clear po nd
  obtain ⟨_, ⟨p, rfl, _, rfl⟩, k⟩ := h
  refine rt_I (j := Sh.flip p) (by walk_at "rs") ?_ k
  unfold Sh.flip
  omega
def spBendOff : Sp := spFun fun vs v => ∃ l p r : Int, vs = [.int l, .int p, .int r] ∧ (0 ≤ l ∧ l ≤ 5) ∧ v = .int (8 * off l.toNat (along p r))
theorem ok_bend_off (T : Txt w K mg) (u_off : Cal P w K mg base CX0 1 "off" p_off spOff) : Cal P w K mg base CX0 2 "bend_off" p_bend_off spBendOff := by
  refine T.d_bend_off.cal sc_bend_off (fun vs H Q E h => by obtain ⟨_, ⟨_, _, _, rfl, _⟩, _⟩ := h; rfl) ?_
  intro cdv A outer s0 H vs Q E hr h
  have nd := sc_bend_off.nd
  have po := poX (CX := CX0) (P := P) (w := w) (K := K) (mg := mg) (base := base) (N := n_bend_off) (q := "bend_off") (sc := defScope s_bend_off) (f := He.ga K "bend_off") (cdv := cdv) (A := A) (outer := outer) (s := s0) (H := H) (E := E)
  have h_off : Room (1) _ := hr.mono (by omega)
  refine ⟨_, (pss_one (ps_ret (pe_op op_mul pe_int (pe_cal u_off (h_off) (p0X (E := E0)) (pa_cons (pv 0) (pa_cons (pe_op op_fdiv (pe_op op_add (pe_op op_mul pe_int (pv 1)) (pe_op op_mul pe_int (pv 2))) pe_int) pa_nil)))))), ?_⟩
  try dsimp only [cxOf]
  clear h_off po nd
  obtain ⟨_, ⟨l, p, r, rfl, hl, rfl⟩, k⟩ := h
  exact rt_I (j := 8 * off l.toNat (along p r)) (by walk_at "rs") rfl k
def spAbove : Sp := spFun fun vs v => ∃ l p r : Int, vs = [.int l, .int p, .int r] ∧ (0 ≤ l ∧ l ≤ 5) ∧ v = .bl (inBend l.toNat p r)
theorem ok_is_above_bend (T : Txt w K mg) (u_bend_of : Cal P w K mg base CX0 1 "bend_of" p_bend_of spBend) (u_bend_off : Cal P w K mg base CX0 2 "bend_off" p_bend_off spBendOff) : Cal P w K mg base CX0 3 "is_above_bend" p_is_above_bend spAbove := by
  refine T.d_is_above_bend.cal sc_is_above_bend (fun vs H Q E h => by obtain ⟨_, ⟨_, _, _, rfl, _⟩, _⟩ := h; rfl) ?_
  intro cdv A outer s0 H vs Q E hr h
  have nd := sc_is_above_bend.nd
  have po := poX (CX := CX0) (P := P) (w := w) (K := K) (mg := mg) (base := base) (N := n_is_above_bend) (q := "is_above_bend") (sc := defScope s_is_above_bend) (f := He.ga K "is_above_bend") (cdv := cdv) (A := A) (outer := outer) (s := s0) (H := H) (E := E)
  have h_bend_of : Room (1) _ := hr.mono (by omega)
  have h_bend_off : Room (2) _ := hr.mono (by omega)
  refine ⟨_, (pss_one (ps_ret (pe_cmpR op_gt (pe_cal u_bend_of (h_bend_of) (p0X (E := E0)) (pa_cons (pv 1) (pa_cons (pv 2) pa_nil))) (pe_cal u_bend_off (h_bend_off) (p0X (E := E0)) (pa_cons (pv 0) (pa_cons (pv 1) (pa_cons (pv 2) pa_nil)))) (nomark _)))), ?_⟩
  try dsimp only [cxOf]
  clear h_bend_off h_bend_of po nd
  obtain ⟨_, ⟨l, p, r, rfl, hl, rfl⟩, k⟩ := h
  exact rt_B (b := inBend l.toNat p r) (by walk_at "rs") rfl k
theorem dist_eq (p : Int) : (if p - 240 < 0 then -(p - 240) else p - 240) = dist p := by
  unfold dist
  by_cases h : p < 240
  · rw [if_pos (by omega), if_pos h]; omega
  · rw [if_neg (by omega), if_neg h]
def rank (d : Int) : Nat := if d ≤ 4 then 0 else if d ≤ 6 then 1 else 2
def spParted (n : Nat) : Sp := spFun fun vs v => ∃ d l p r : Int, vs = [.int d, .int l, .int p, .int r] ∧ ((0 ≤ d ∧ d ≤ 7) ∧ (0 ≤ l ∧ l ≤ 5) ∧ rank d < n) ∧ v = .bl (firstAt d.toNat l.toNat p r)
theorem spParted_never : ∀ vs H Q E, spParted 0 vs H Q E → False := fun vs H Q E ⟨_, ⟨_, _, _, _, _, ⟨_, _, h⟩, _⟩, _⟩ => by omega
theorem step_is_parted (T : Txt w K mg) (n : Nat) (u_off : Cal P w K mg base CX0 1 "off" p_off spOff) (u_is_above_bend : Cal P w K mg base CX0 3 "is_above_bend" p_is_above_bend spAbove) (u_other_side : Cal P w K mg base CX0 1 "other_side" p_other_side spFlip) (u_is_parted : Cal P w K mg base CX0 (3 + n) "is_parted" p_is_parted (spParted n)) : Cal P w K mg base CX0 (3 + n + 1) "is_parted" p_is_parted (spParted (n + 1)) := by
  refine T.d_is_parted.cal sc_is_parted (fun vs H Q E h => by obtain ⟨_, ⟨_, _, _, _, rfl, _⟩, _⟩ := h; rfl) ?_
  intro cdv A outer s0 H vs Q E hr h
  have nd := sc_is_parted.nd
  have po := poX (CX := CX0) (P := P) (w := w) (K := K) (mg := mg) (base := base) (N := n_is_parted) (q := "is_parted") (sc := defScope s_is_parted) (f := He.ga K "is_parted") (cdv := cdv) (A := A) (outer := outer) (s := s0) (H := H) (E := E)
  have h_off : Room (1) _ := hr.mono (by omega)
  have h_is_above_bend : Room (3) _ := hr.mono (by omega)
  have h_other_side : Room (1) _ := hr.mono (by omega)
  have h_is_parted : Room (3+n) _ := hr.mono (by omega)
  refine ⟨_, (pss_cons (ps_if (pt_cmpR op_eq (pv 0) pe_int (nomark _)) (pss_one (ps_ret (pe_cmpR op_lt (pv 2) (pe_op op_add pe_int (pe_cal u_off (h_off) (p0X (E := E0)) (pa_cons (pv 1) (pa_cons (pv 3) pa_nil)))) (nomark _)))) pss_nil)
      (pss_cons (ps_if (pt_cmpR op_eq (pv 0) pe_int (nomark _)) (pss_one (ps_ret (pe_cmpR op_lt (pv 3) (pe_op op_add pe_int (pe_cal u_off (h_off) (p0X (E := E0)) (pa_cons (pv 1) (pa_cons (pv 2) pa_nil)))) (nomark _)))) pss_nil)
      (pss_cons (ps_if (pt_cmpR op_eq (pv 0) pe_int (nomark _)) (pss_one (ps_ret (pe_cal u_is_above_bend (h_is_above_bend) (p0X (E := E0)) (pa_cons (pv 1) (pa_cons (pv 2) (pa_cons (pv 3) pa_nil)))))) pss_nil)
      (pss_cons (ps_if (pt_cmpR op_eq (pv 0) pe_int (nomark _)) (pss_one (ps_ret (pe_cal u_is_above_bend (h_is_above_bend) (p0X (E := E0)) (pa_cons (pv 1) (pa_cons (pe_cal u_other_side (h_other_side) (p0X (E := E0)) (pa_cons (pv 2) pa_nil)) (pa_cons (pv 3) pa_nil)))))) pss_nil)
      (pss_cons (ps_if (pt_cmpR op_eq (pv 0) pe_int (nomark _)) (pss_one (ps_ret (pe_cmpR op_lt (pv 3) (pe_op op_add (pe_op op_add pe_int (pe_callB call_abs (by rfl) T.f_abs (by decide +kernel) (pa_cons (pe_op op_sub (pv 2) pe_int) pa_nil))) (pe_cal u_off (h_off) (p0X (E := E0)) (pa_cons (pv 1) (pa_cons (pv 2) pa_nil)))) (nomark _)))) pss_nil)
      (pss_cons (ps_if (pt_cmpR op_eq (pv 0) pe_int (nomark _)) (pss_one (ps_ret (pe_cmpR op_eq (pe_cal u_is_parted (h_is_parted) (p0X (E := E0)) (pa_cons pe_int (pa_cons (pv 1) (pa_cons (pv 2) (pa_cons (pv 3) pa_nil))))) (pe_cal u_is_parted (h_is_parted) (p0X (E := E0)) (pa_cons pe_int (pa_cons (pv 1) (pa_cons (pv 2) (pa_cons (pv 3) pa_nil))))) (nomark _)))) pss_nil)
      (pss_cons (ps_if (pt_cmpR op_eq (pv 0) pe_int (nomark _)) (pss_one (ps_ret (pe_cmpR op_eq (pe_cal u_is_parted (h_is_parted) (p0X (E := E0)) (pa_cons pe_int (pa_cons (pv 1) (pa_cons (pv 2) (pa_cons (pv 3) pa_nil))))) (pe_cal u_is_parted (h_is_parted) (p0X (E := E0)) (pa_cons pe_int (pa_cons (pv 1) (pa_cons (pv 2) (pa_cons (pv 3) pa_nil))))) (nomark _)))) pss_nil)
      (pss_one (ps_ret (pe_cmpR op_ne (pe_cal u_is_parted (h_is_parted) (p0X (E := E0)) (pa_cons pe_int (pa_cons (pv 1) (pa_cons (pv 2) (pa_cons (pv 3) pa_nil))))) (pe_cal u_is_parted (h_is_parted) (p0X (E := E0)) (pa_cons pe_int (pa_cons (pv 1) (pa_cons (pv 2) (pa_cons (pv 3) pa_nil))))) (nomark _))))))))))), ?_⟩
  try dsimp only [cxOf]
  clear h_is_parted h_other_side h_is_above_bend h_off po nd
  obtain ⟨_, ⟨d, l, p, r, rfl, ⟨hd, hl, hn⟩, rfl⟩, k⟩ := h
  have r0 : rank 0 = 0 := by decide
  have r1 : rank 1 = 0 := by decide
  have r2 : rank 2 = 0 := by decide
  have r3 : rank 3 = 0 := by decide
  have r5 : rank 5 = 1 := by decide
  have r6 : rank 6 = 1 := by decide
  refine a_when (by walk_at "vr") (fun c => ?_) fun c => ?_
  · obtain rfl := of_decide_eq_true c
    exact rt_B (b := firstAt 0 l.toNat p r) (by walk_at "rs") rfl k
  refine a_when (by walk_at "vr") (fun c => ?_) fun c => ?_
  · obtain rfl := of_decide_eq_true c
    exact rt_B (b := firstAt 1 l.toNat p r) (by walk_at "rs") rfl k
  refine a_when (by walk_at "vr") (fun c => ?_) fun c => ?_
  · obtain rfl := of_decide_eq_true c
    exact rt_B (b := firstAt 2 l.toNat p r) (by walk_at "rs") rfl k
  refine a_when (by walk_at "vr") (fun c => ?_) fun c => ?_
  · obtain rfl := of_decide_eq_true c
    exact rt_B (b := firstAt 3 l.toNat p r) (by walk_at "rs") rfl k
  refine a_when (by walk_at "vr") (fun c => ?_) fun c => ?_
  · obtain rfl := of_decide_eq_true c
    refine rt_B (b := firstAt 4 l.toNat p r) (by walk_at "rs") ?_ k
    rw [dist_eq]
    rfl
  refine a_when (by walk_at "vr") (fun c => ?_) fun c => ?_
  · obtain rfl := of_decide_eq_true c
    exact rt_B (b := firstAt 5 l.toNat p r) (by walk_at "rs") rfl k
  refine a_when (by walk_at "vr") (fun c => ?_) fun c => ?_
  · obtain rfl := of_decide_eq_true c
    exact rt_B (b := firstAt 6 l.toNat p r) (by walk_at "rs") rfl k
  have d7 : d = 7 := by
    simp only [decide_eq_false_iff_not] at *
    omega
  subst d7
  have r7 : rank 7 = 2 := by decide
  exact rt_B (b := firstAt 7 l.toNat p r) (by walk_at "rs") rfl k
theorem all_is_parted (T : Txt w K mg) (u_off : Cal P w K mg base CX0 1 "off" p_off spOff) (u_is_above_bend : Cal P w K mg base CX0 3 "is_above_bend" p_is_above_bend spAbove) (u_other_side : Cal P w K mg base CX0 1 "other_side" p_other_side spFlip) : ∀ d : Nat, Cal P w K mg base CX0 (3 + d) "is_parted" p_is_parted (spParted d)
  | 0 => by
    obtain ⟨⟨fd, F, b⟩, g⟩ := T.d_is_parted
    exact ⟨⟨fd, ⟨fun _ _ _ _ h => (spParted_never _ _ _ _ h).elim, fun _ _ _ _ _ _ _ _ _ _ _ _ _ h => (spParted_never _ _ _ _ h).elim⟩, b⟩, g, F.kp⟩
  | d + 1 => step_is_parted T d u_off u_is_above_bend u_other_side (all_is_parted T u_off u_is_above_bend u_other_side d)
def spBendy : Sp := spFun fun vs v => ∃ n l p r : Int, vs = [.int n, .int l, .int p, .int r] ∧ ((0 ≤ l ∧ l ≤ 5) ∧ 2 ≤ n ∧ n ≤ 24) ∧ v = .int ((diag p r + 2880 + 8 * off l.toNat (along p r)) * n / 5760)
theorem ok_bendy_number (T : Txt w K mg) (u_bend_of : Cal P w K mg base CX0 1 "bend_of" p_bend_of spBend) (u_bend_off : Cal P w K mg base CX0 2 "bend_off" p_bend_off spBendOff) : Cal P w K mg base CX0 3 "bendy_number" p_bendy_number spBendy := by
  refine T.d_bendy_number.cal sc_bendy_number (fun vs H Q E h => by obtain ⟨_, ⟨_, _, _, _, rfl, _⟩, _⟩ := h; rfl) ?_
  intro cdv A outer s0 H vs Q E hr h
  have nd := sc_bendy_number.nd
  have po := poX (CX := CX0) (P := P) (w := w) (K := K) (mg := mg) (base := base) (N := n_bendy_number) (q := "bendy_number") (sc := defScope s_bendy_number) (f := He.ga K "bendy_number") (cdv := cdv) (A := A) (outer := outer) (s := s0) (H := H) (E := E)
  have h_bend_of : Room (1) _ := hr.mono (by omega)
  have h_bend_off : Room (2) _ := hr.mono (by omega)
  refine ⟨_, (pss_one (ps_ret (pe_op op_fdiv (pe_op op_mul (pe_op op_add (pe_op op_add (pe_cal u_bend_of (h_bend_of) (p0X (E := E0)) (pa_cons (pv 2) (pa_cons (pv 3) pa_nil))) pe_int) (pe_cal u_bend_off (h_bend_off) (p0X (E := E0)) (pa_cons (pv 1) (pa_cons (pv 2) (pa_cons (pv 3) pa_nil))))) (pv 0)) pe_int))), ?_⟩
  try dsimp only [cxOf]
  clear h_bend_off h_bend_of po nd
  obtain ⟨_, ⟨n, l, p, r, rfl, hl, rfl⟩, k⟩ := h
  exact rt_I (j := (diag p r + 2880 + 8 * off l.toNat (along p r)) * n / 5760) (by walk_at "rs") rfl k
def spPiece : Sp := spFun fun vs v => ∃ d n l p r : Int, vs = [.int d, .int n, .int l, .int p, .int r] ∧ ((0 ≤ d ∧ d ≤ 6) ∧ (0 ≤ l ∧ l ≤ 5) ∧ (2 ≤ n ∧ n ≤ 24) ∧ (0 ≤ p ∧ p < 480) ∧ 0 ≤ r ∧ r < 576) ∧ v = .int (pieceAt d.toNat n l.toNat p r)
theorem ok_piece_number (T : Txt w K mg) (u_off : Cal P w K mg base CX0 1 "off" p_off spOff) (u_bendy_number : Cal P w K mg base CX0 3 "bendy_number" p_bendy_number spBendy) (u_other_side : Cal P w K mg base CX0 1 "other_side" p_other_side spFlip) (u_bend_of : Cal P w K mg base CX0 1 "bend_of" p_bend_of spBend) : Cal P w K mg base CX0 4 "piece_number" p_piece_number spPiece := by
  refine T.d_piece_number.cal sc_piece_number (fun vs H Q E h => by obtain ⟨_, ⟨_, _, _, _, _, rfl, _⟩, _⟩ := h; rfl) ?_
  intro cdv A outer s0 H vs Q E hr h
  have nd := sc_piece_number.nd
  have po := poX (CX := CX0) (P := P) (w := w) (K := K) (mg := mg) (base := base) (N := n_piece_number) (q := "piece_number") (sc := defScope s_piece_number) (f := He.ga K "piece_number") (cdv := cdv) (A := A) (outer := outer) (s := s0) (H := H) (E := E)
  have h_off : Room (1) _ := hr.mono (by omega)
  have h_bendy_number : Room (3) _ := hr.mono (by omega)
  have h_other_side : Room (1) _ := hr.mono (by omega)
  have h_bend_of : Room (1) _ := hr.mono (by omega)
  refine ⟨_, (pss_cons (ps_if (pt_cmpR op_eq (pv 0) pe_int (nomark _)) (pss_one (ps_ret (pe_op op_fdiv (pe_op op_mul (pe_op op_add (pv 4) (pe_cal u_off (h_off) (p0X (E := E0)) (pa_cons (pv 2) (pa_cons (pv 3) pa_nil)))) (pv 1)) (pe_gi T.i_HIGH)))) pss_nil)
      (pss_cons (ps_if (pt_cmpR op_eq (pv 0) pe_int (nomark _)) (pss_one (ps_ret (pe_op op_fdiv (pe_op op_mul (pe_op op_add (pv 3) (pe_cal u_off (h_off) (p0X (E := E0)) (pa_cons (pv 2) (pa_cons (pv 4) pa_nil)))) (pv 1)) (pe_gi T.i_WIDE)))) pss_nil)
      (pss_cons (ps_if (pt_cmpR op_eq (pv 0) pe_int (nomark _)) (pss_one (ps_ret (pe_cal u_bendy_number (h_bendy_number) (p0X (E := E0)) (pa_cons (pv 1) (pa_cons (pv 2) (pa_cons (pv 3) (pa_cons (pv 4) pa_nil))))))) pss_nil)
      (pss_cons (ps_if (pt_cmpR op_eq (pv 0) pe_int (nomark _)) (pss_one (ps_ret (pe_cal u_bendy_number (h_bendy_number) (p0X (E := E0)) (pa_cons (pv 1) (pa_cons (pv 2) (pa_cons (pe_cal u_other_side (h_other_side) (p0X (E := E0)) (pa_cons (pv 3) pa_nil)) (pa_cons (pv 4) pa_nil))))))) pss_nil)
      (pss_cons (ps_if (pt_cmpR op_eq (pv 0) pe_int (nomark _)) (pss_one (ps_ret (pe_op op_fdiv (pe_op op_mul (pe_op op_add (pe_op op_add (pe_op op_sub (pv 4) (pe_callB call_abs (by rfl) T.f_abs (by decide +kernel) (pa_cons (pe_op op_sub (pv 3) pe_int) pa_nil))) pe_int) (pe_cal u_off (h_off) (p0X (E := E0)) (pa_cons (pv 2) (pa_cons (pv 3) pa_nil)))) (pv 1)) pe_int))) pss_nil)
      (pss_cons (ps_if (pt_cmpR op_eq (pv 0) pe_int (nomark _)) (pss_one (ps_ret (pe_op op_add (pe_op op_fdiv (pe_op op_mul (pv 3) (pv 1)) (pe_gi T.i_WIDE)) (pe_op op_fdiv (pe_op op_mul (pv 4) (pe_op op_fdiv (pe_op op_add (pe_op op_mul pe_int (pv 1)) pe_int) pe_int)) (pe_gi T.i_HIGH))))) pss_nil)
      (pss_one (ps_ret (pe_op op_add (pe_op op_fdiv (pe_op op_mul (pe_op op_add (pe_op op_mul pe_int (pv 3)) (pe_op op_mul pe_int (pv 4))) (pv 1)) pe_int) (pe_op op_fdiv (pe_op op_mul (pe_op op_add (pe_cal u_bend_of (h_bend_of) (p0X (E := E0)) (pa_cons (pv 3) (pa_cons (pv 4) pa_nil))) pe_int) (pv 1)) pe_int)))))))))), ?_⟩
  try dsimp only [cxOf]
  clear h_bend_of h_other_side h_bendy_number h_off po nd
  obtain ⟨_, ⟨d, n, l, p, r, rfl, hl, rfl⟩, k⟩ := h
  refine rt_I (j := pieceAt d.toNat n l.toNat p r) (by walk_at "rs") ?_ k
  simp only [dist_eq]
  rcases (show d = 0 ∨ d = 1 ∨ d = 2 ∨ d = 3 ∨ d = 4 ∨ d = 5 ∨ d = 6 by omega) with rfl | rfl | rfl | rfl | rfl | rfl | rfl <;> simp [pieceAt, diag]
def spNear : Sp := spFun fun vs v => ∃ l p r m : Int, vs = [.int l, .int p, .int r, .int m] ∧ (0 ≤ l ∧ l ≤ 5) ∧ v = .bl (nearDiag l.toNat m p r)
theorem near_eq (x m : Int) : decide ((if x < 0 then -x else x) < m) = within (1 - m) x m := by
  unfold within
  rw [Bool.eq_iff_iff]
  simp
  omega
theorem ok_is_near_bend (T : Txt w K mg) (u_bend_of : Cal P w K mg base CX0 1 "bend_of" p_bend_of spBend) (u_bend_off : Cal P w K mg base CX0 2 "bend_off" p_bend_off spBendOff) : Cal P w K mg base CX0 3 "is_near_bend" p_is_near_bend spNear := by
  refine T.d_is_near_bend.cal sc_is_near_bend (fun vs H Q E h => by obtain ⟨_, ⟨_, _, _, _, rfl, _⟩, _⟩ := h; rfl) ?_
  intro cdv A outer s0 H vs Q E hr h
  have nd := sc_is_near_bend.nd
  have po := poX (CX := CX0) (P := P) (w := w) (K := K) (mg := mg) (base := base) (N := n_is_near_bend) (q := "is_near_bend") (sc := defScope s_is_near_bend) (f := He.ga K "is_near_bend") (cdv := cdv) (A := A) (outer := outer) (s := s0) (H := H) (E := E)
  have h_bend_of : Room (1) _ := hr.mono (by omega)
  have h_bend_off : Room (2) _ := hr.mono (by omega)
  refine ⟨_, (pss_one (ps_ret (pe_cmpR op_lt (pe_callB call_abs (by rfl) T.f_abs (by decide +kernel) (pa_cons (pe_op op_sub (pe_cal u_bend_of (h_bend_of) (p0X (E := E0)) (pa_cons (pv 1) (pa_cons (pv 2) pa_nil))) (pe_cal u_bend_off (h_bend_off) (p0X (E := E0)) (pa_cons (pv 0) (pa_cons (pv 1) (pa_cons (pv 2) pa_nil))))) pa_nil)) (pv 3) (nomark _)))), ?_⟩
  try dsimp only [cxOf]
  clear h_bend_off h_bend_of po nd
  obtain ⟨_, ⟨l, p, r, m, rfl, hl, rfl⟩, k⟩ := h
  exact rt_B (b := nearDiag l.toNat m p r) (by walk_at "rs") (near_eq _ _) k
def spOrd : Sp := spFun fun vs v => ∃ d l p r : Int, vs = [.int d, .int l, .int p, .int r] ∧ ((0 ≤ d ∧ d ≤ 12) ∧ (0 ≤ l ∧ l ≤ 5) ∧ (0 ≤ p ∧ p < 480) ∧ 0 ≤ r ∧ r < 576) ∧ v = .bl (ordHas d.toNat l.toNat p r)
def spEdge : Sp := spFun fun vs v => ∃ l p r : Int, vs = [.int l, .int p, .int r] ∧ (0 ≤ l ∧ l ≤ 5) ∧ v = .bl (ordHas 10 l.toNat p r)
theorem ok_is_on_edge (T : Txt w K mg) (u_off : Cal P w K mg base CX0 1 "off" p_off spOff) : Cal P w K mg base CX0 2 "is_on_edge" p_is_on_edge spEdge := by
  refine T.d_is_on_edge.cal sc_is_on_edge (fun vs H Q E h => by obtain ⟨_, ⟨_, _, _, rfl, _⟩, _⟩ := h; rfl) ?_
  intro cdv A outer s0 H vs Q E hr h
  have nd := sc_is_on_edge.nd
  have po := poX (CX := CX0) (P := P) (w := w) (K := K) (mg := mg) (base := base) (N := n_is_on_edge) (q := "is_on_edge") (sc := defScope s_is_on_edge) (f := He.ga K "is_on_edge") (cdv := cdv) (A := A) (outer := outer) (s := s0) (H := H) (E := E)
  have h_off : Room (1) _ := hr.mono (by omega)
  refine ⟨_, (pss_cons (ps_if (PW.pt (pw_or (pt_cmpR op_lt (pv 1) (pe_op op_add pe_int (pe_cal u_off (h_off) (p0X (E := E0)) (pa_cons (pv 0) (pa_cons (pv 2) pa_nil)))) (nomark _)) (pw_or1 (pt_cmpR op_ge (pv 1) (pe_op op_sub pe_int (pe_cal u_off (h_off) (p0X (E := E0)) (pa_cons (pv 0) (pa_cons (pv 2) pa_nil)))) (nomark _))))) (pss_one (ps_ret pe_bl)) pss_nil)
      (pss_one (ps_ret (pe_or (pe_cmpR op_lt (pv 2) (pe_op op_add pe_int (pe_cal u_off (h_off) (p0X (E := E0)) (pa_cons (pv 0) (pa_cons (pv 1) pa_nil)))) (nomark _)) (pe_one (pe_cmpR op_ge (pv 2) (pe_op op_sub pe_int (pe_cal u_off (h_off) (p0X (E := E0)) (pa_cons (pv 0) (pa_cons (pv 1) pa_nil)))) (nomark _))))))), ?_⟩
  try dsimp only [cxOf]
  clear h_off po nd
  obtain ⟨_, ⟨l, p, r, rfl, hl, rfl⟩, k⟩ := h
  refine rt_B (b := ordHas 10 l.toNat p r) (by walk_at "rs") ?_ k
  rw [Bool.eq_iff_iff]
  simp [ordHas]
  omega
def spStraight : Sp := spFun fun vs v => ∃ d l p r : Int, vs = [.int d, .int l, .int p, .int r] ∧ ((0 ≤ d ∧ d ≤ 5) ∧ (0 ≤ l ∧ l ≤ 5)) ∧ v = .bl (ordHas d.toNat l.toNat p r)
theorem ok_is_on_straight (T : Txt w K mg) (u_off : Cal P w K mg base CX0 1 "off" p_off spOff) (u_other_side : Cal P w K mg base CX0 1 "other_side" p_other_side spFlip) (u_is_near_bend : Cal P w K mg base CX0 3 "is_near_bend" p_is_near_bend spNear) : Cal P w K mg base CX0 4 "is_on_straight" p_is_on_straight spStraight := by
  refine T.d_is_on_straight.cal sc_is_on_straight (fun vs H Q E h => by obtain ⟨_, ⟨_, _, _, _, rfl, _⟩, _⟩ := h; rfl) ?_
  intro cdv A outer s0 H vs Q E hr h
  have nd := sc_is_on_straight.nd
  have po := poX (CX := CX0) (P := P) (w := w) (K := K) (mg := mg) (base := base) (N := n_is_on_straight) (q := "is_on_straight") (sc := defScope s_is_on_straight) (f := He.ga K "is_on_straight") (cdv := cdv) (A := A) (outer := outer) (s := s0) (H := H) (E := E)
  have h_off : Room (1) _ := hr.mono (by omega)
  have h_other_side : Room (1) _ := hr.mono (by omega)
  have h_is_near_bend : Room (3) _ := hr.mono (by omega)
  refine ⟨_, (pss_cons (ps_if (pt_cmpR op_eq (pv 0) pe_int (nomark _)) (pss_one (ps_ret (pe_cmpR op_lt (pv 3) (pe_op op_add pe_int (pe_cal u_off (h_off) (p0X (E := E0)) (pa_cons (pv 1) (pa_cons (pv 2) pa_nil)))) (nomark _)))) pss_nil)
      (pss_cons (ps_if (pt_cmpR op_eq (pv 0) pe_int (nomark _)) (pss_one (ps_ret (pe_cmpR op_ge (pv 3) (pe_op op_add pe_int (pe_cal u_off (h_off) (p0X (E := E0)) (pa_cons (pv 1) (pa_cons (pv 2) pa_nil)))) (nomark _)))) pss_nil)
      (pss_cons (ps_if (pt_cmpR op_eq (pv 0) pe_int (nomark _)) (pss_one (ps_ret (pe_chain op_le op_lt pe_int (pe_op op_sub (pv 2) (pe_cal u_off (h_off) (p0X (E := E0)) (pa_cons (pv 1) (pa_cons (pv 3) pa_nil)))) pe_int))) pss_nil)
      (pss_cons (ps_if (pt_cmpR op_eq (pv 0) pe_int (nomark _)) (pss_one (ps_ret (pe_chain op_le op_lt pe_int (pe_op op_sub (pv 3) (pe_cal u_off (h_off) (p0X (E := E0)) (pa_cons (pv 1) (pa_cons (pv 2) pa_nil)))) pe_int))) pss_nil)
      (pss_one (ps_ret (pe_cal u_is_near_bend (h_is_near_bend) (p0X (E := E0)) (pa_cons (pv 1) (pa_cons (pe_ifExp (pt_cmpR op_eq (pv 0) pe_int (nomark _)) (pv 2) (pe_cal u_other_side (h_other_side) (p0X (E := E0)) (pa_cons (pv 2) pa_nil))) (pa_cons (pv 3) (pa_cons pe_int pa_nil))))))))))), ?_⟩
  try dsimp only [cxOf]
  clear h_is_near_bend h_other_side h_off po nd
  obtain ⟨_, ⟨d, l, p, r, rfl, hl, rfl⟩, k⟩ := h
  refine rt_B (b := ordHas d.toNat l.toNat p r) (by walk_at "rs") ?_ k
  rw [Bool.eq_iff_iff]
  rcases (show d = 0 ∨ d = 1 ∨ d = 2 ∨ d = 3 ∨ d = 4 ∨ d = 5 by omega) with rfl | rfl | rfl | rfl | rfl | rfl <;> simp [ordHas, within] <;> omega
theorem ok_has_ordinary (T : Txt w K mg) (u_is_on_straight : Cal P w K mg base CX0 4 "is_on_straight" p_is_on_straight spStraight) (u_off : Cal P w K mg base CX0 1 "off" p_off spOff) (u_is_near_bend : Cal P w K mg base CX0 3 "is_near_bend" p_is_near_bend spNear) (u_other_side : Cal P w K mg base CX0 1 "other_side" p_other_side spFlip) (u_is_on_edge : Cal P w K mg base CX0 2 "is_on_edge" p_is_on_edge spEdge) : Cal P w K mg base CX0 5 "has_ordinary" p_has_ordinary spOrd := by
  refine T.d_has_ordinary.cal sc_has_ordinary (fun vs H Q E h => by obtain ⟨_, ⟨_, _, _, _, rfl, _⟩, _⟩ := h; rfl) ?_
  intro cdv A outer s0 H vs Q E hr h
  have nd := sc_has_ordinary.nd
  have po := poX (CX := CX0) (P := P) (w := w) (K := K) (mg := mg) (base := base) (N := n_has_ordinary) (q := "has_ordinary") (sc := defScope s_has_ordinary) (f := He.ga K "has_ordinary") (cdv := cdv) (A := A) (outer := outer) (s := s0) (H := H) (E := E)
  have h_is_on_straight : Room (4) _ := hr.mono (by omega)
  have h_off : Room (1) _ := hr.mono (by omega)
  have h_is_near_bend : Room (3) _ := hr.mono (by omega)
  have h_other_side : Room (1) _ := hr.mono (by omega)
  have h_is_on_edge : Room (2) _ := hr.mono (by omega)
  refine ⟨_, (pss_cons (ps_if (pt_cmpR op_le (pv 0) pe_int (nomark _)) (pss_one (ps_ret (pe_cal u_is_on_straight (h_is_on_straight) (p0X (E := E0)) (pa_cons (pv 0) (pa_cons (pv 1) (pa_cons (pv 2) (pa_cons (pv 3) pa_nil))))))) pss_nil)
      (pss_cons (ps_if (pt_cmpR op_eq (pv 0) pe_int (nomark _)) (pss_one (ps_ret (pe_chain op_le op_lt pe_int (pe_op op_sub (pe_op op_sub (pe_op op_sub (pv 3) pe_int) (pe_callB call_abs (by rfl) T.f_abs (by decide +kernel) (pa_cons (pe_op op_sub (pv 2) pe_int) pa_nil))) (pe_cal u_off (h_off) (p0X (E := E0)) (pa_cons (pv 1) (pa_cons (pv 2) pa_nil)))) pe_int))) pss_nil)
      (pss_cons (ps_if (pt_cmpR op_eq (pv 0) pe_int (nomark _)) (pss_one (ps_ret (pe_or (pe_chain op_le op_lt pe_int (pe_op op_sub (pv 2) (pe_cal u_off (h_off) (p0X (E := E0)) (pa_cons (pv 1) (pa_cons (pv 3) pa_nil)))) pe_int) (pe_one (pe_chain op_le op_lt pe_int (pe_op op_sub (pv 3) (pe_cal u_off (h_off) (p0X (E := E0)) (pa_cons (pv 1) (pa_cons (pv 2) pa_nil)))) pe_int))))) pss_nil)
      (pss_cons (ps_if (pt_cmpR op_eq (pv 0) pe_int (nomark _)) (pss_one (ps_ret (pe_or (pe_cal u_is_near_bend (h_is_near_bend) (p0X (E := E0)) (pa_cons (pv 1) (pa_cons (pv 2) (pa_cons (pv 3) (pa_cons pe_int pa_nil))))) (pe_one (pe_cal u_is_near_bend (h_is_near_bend) (p0X (E := E0)) (pa_cons (pv 1) (pa_cons (pe_cal u_other_side (h_other_side) (p0X (E := E0)) (pa_cons (pv 2) pa_nil)) (pa_cons (pv 3) (pa_cons pe_int pa_nil))))))))) pss_nil)
      (pss_cons (ps_if (pt_cmpR op_eq (pv 0) pe_int (nomark _)) (pss_one (ps_ret (pe_cmpR op_lt (pe_op op_mul pe_int (pe_callB call_abs (by rfl) T.f_abs (by decide +kernel) (pa_cons (pe_op op_sub (pv 2) pe_int) pa_nil))) (pe_op op_add (pe_op op_mul pe_int (pe_op op_sub pe_int (pv 3))) (pe_op op_mul pe_int (pe_cal u_off (h_off) (p0X (E := E0)) (pa_cons (pv 1) (pa_cons (pv 3) pa_nil))))) (nomark _)))) pss_nil)
      (pss_cons (ps_if (pt_cmpR op_eq (pv 0) pe_int (nomark _)) (pss_one (ps_ret (pe_cal u_is_on_edge (h_is_on_edge) (p0X (E := E0)) (pa_cons (pv 1) (pa_cons (pv 2) (pa_cons (pv 3) pa_nil)))))) pss_nil)
      (pss_cons (ps_if (pt_cmpR op_eq (pv 0) pe_int (nomark _)) (pss_one (ps_ret (pe_and (pe_cmpR op_lt (pv 2) (pe_op op_add pe_int (pe_cal u_off (h_off) (p0X (E := E0)) (pa_cons (pv 1) (pa_cons (pv 3) pa_nil)))) (nomark _)) (pe_one (pe_cmpR op_lt (pv 3) (pe_op op_add pe_int (pe_cal u_off (h_off) (p0X (E := E0)) (pa_cons (pv 1) (pa_cons (pv 2) pa_nil)))) (nomark _)))))) pss_nil)
      (pss_one (ps_ret (pe_and (pe_cmpR op_lt (pv 2) (pe_op op_add pe_int (pe_cal u_off (h_off) (p0X (E := E0)) (pa_cons (pv 1) (pa_cons (pv 3) pa_nil)))) (nomark _)) (pe_one (pe_cmpR op_lt (pv 3) (pe_op op_add pe_int (pe_cal u_off (h_off) (p0X (E := E0)) (pa_cons (pv 1) (pa_cons (pv 2) pa_nil)))) (nomark _))))))))))))), ?_⟩
  try dsimp only [cxOf]
  clear h_is_on_edge h_other_side h_is_near_bend h_off h_is_on_straight po nd
  obtain ⟨_, ⟨d, l, p, r, rfl, hl, rfl⟩, k⟩ := h
  refine a_when (by walk_at "vr") (fun c => ?_) fun c => ?_
  · have c' := of_decide_eq_true c
    exact rt_B (b := ordHas d.toNat l.toNat p r) (by walk_at "rs") rfl k
  have c' := of_decide_eq_false c
  refine rt_B (b := ordHas d.toNat l.toNat p r) (by walk_at "rs") ?_ k
  simp only [dist_eq]
  rw [Bool.eq_iff_iff]
  rcases (show d = 6 ∨ d = 7 ∨ d = 8 ∨ d = 9 ∨ d = 10 ∨ d = 11 ∨ d = 12 by omega) with rfl | rfl | rfl | rfl | rfl | rfl | rfl <;> simp [ordHas, within] <;> omega
end
end Hc

namespace Hc
open PySem PySem.Spec PyProof.Rows L2
open Sh ShMarsh
set_option hygiene false
local macro_rules | `(tactic| walk_at "hp") => `(tactic| first | assumption | exact Src.ob (by assumption) | exact Rdr.ob (by assumption) | exact upd_same)
local macro_rules | `(tactic| walk_at "sq") => `(tactic| first | assumption | exact Src.sq (by assumption) | exact Rdr.sq (by assumption) | exact SqL.of (by assumption) | exact SqL.of upd_same | exact SqT.of (by assumption) | exact SqT.of upd_same)
local macro_rules | `(tactic| walk_at "cl") => `(tactic| with_reducible first | exact T.c_Bytes | exact T.c_Coat | exact T.c_Arms | exact T.c_Layer | exact T.c_Token | exact T.c_Reader | exact T.c_Words)
local macro_rules | `(tactic| walk_at "na") => `(tactic| with_reducible first | exact T.n_Bytes_some | exact T.n_Bytes_at | exact T.n_Coat_kind | exact T.n_Coat_arms | exact T.n_Coat_canton | exact T.n_Coat_marks | exact T.n_Coat_coats | exact T.n_Arms_field | exact T.n_Arms_layers | exact T.n_Layer_kind | exact T.n_Layer_numbers | exact T.n_Layer_fill | exact T.n_Token_kind | exact T.n_Token_value | exact T.n_Token_place | exact T.n_Token_behind | exact T.n_Reader_some | exact T.n_Reader_at | exact T.n_Reader_end | exact T.n_Words_some | exact T.n_Words_at)
local macro_rules | `(tactic| walk_at "ai") => `(tactic| first | assumption | exact atI_nat (by assumption) | rfl)
local macro_rules | `(tactic| walk_at "rd1") => `(tactic| first
  | refine ⟨_, rfl, ?_⟩
  | refine ⟨rfl, ?_⟩
  | refine ⟨_, _, rfl, rfl, ?_⟩
  | refine ⟨_, _, _, _, _, rfl, (by walk_at "hp"), (by walk_at "cl"), (by walk_at "na"), (by rfl), ?_⟩
  | refine ⟨_, _, _, _, rfl, (by walk_at "hp"), (by walk_at "cl"), (by walk_at "na"), Nat.le_of_ble_eq_true rfl, ?_⟩
  | refine ⟨_, _, _, _, rfl, rfl, (by walk_at "sq"), (by walk_at "ai"), ?_⟩
  | refine ⟨_, _, rfl, (by first | exact Or.inl (by walk_at "sq") | exact Or.inr (by walk_at "sq")), ?_⟩
  | refine ⟨(by walk_at "ar"), ?_⟩)
local macro_rules | `(tactic| walk_at "ar") => `(tactic| first | exact (show CDiv _ _ from ⟨by decide, by decide⟩) | exact (show (0 : Int) < _ from by decide) | exact (show CMul _ _ from .inl ⟨by omega, by omega⟩) | exact (show CMul _ _ from .inr ⟨by omega, by omega⟩))
local macro_rules | `(tactic| walk_at "rd") => `(tactic| repeat walk_at "rd1")
local macro_rules | `(tactic| walk_at "fa") => `(tactic| first | exact ⟨_, rfl, (by omega), rfl⟩ | exact ⟨_, _, rfl, (by omega), rfl⟩ | exact ⟨_, _, _, rfl, (by omega), rfl⟩ | exact ⟨_, _, _, _, rfl, (by omega), rfl⟩ | exact ⟨_, _, _, _, _, rfl, (by omega), rfl⟩)
local macro_rules | `(tactic| walk_at "vr") => `(tactic| first
  | exact v_var (by rfl)
  | exact v_c
  | (apply v_i0 <;> walk_at "vr")
  | (apply v_i <;> first | walk_at "ar" | walk_at "vr")
  | (apply v_neg <;> walk_at "vr")
  | (apply v_eq <;> walk_at "vr")
  | (apply v_eqB <;> walk_at "vr")
  | (apply v_ne <;> walk_at "vr")
  | (apply v_neB <;> walk_at "vr")
  | (apply v_chain (g := fun _ _ => _) (g' := fun _ _ => _) <;> walk_at "vr")
  | (apply v_and <;> walk_at "vr")
  | (apply v_or <;> walk_at "vr")
  | (apply v_not <;> walk_at "vr")
  | (apply v_ifI <;> walk_at "vr")
  | (apply v_ifB <;> walk_at "vr")
  | (apply v_call <;> first | walk_at "fa" | walk_at "vr")
  | (apply v_abs <;> walk_at "vr")
  | (apply v_min <;> walk_at "vr")
  | exact va_nil
  | (apply va_cons <;> walk_at "vr")
  | (apply a_test <;> walk_at "vr")
  | (apply a_B <;> walk_at "vr")
  | (apply a_and <;> walk_at "vr")
  | (apply a_or <;> walk_at "vr")
  | (apply a_not <;> walk_at "vr"))
local macro_rules | `(tactic| walk_at "rs") => `(tactic| first
  | (apply r_ret; walk_at "vr")
  | (apply r_set; walk_at "vr"; walk_at "rs")
  | (apply r_ifI; walk_at "vr"; intro _; walk_at "rs"; intro _; walk_at "rs")
  | (apply r_ifB; walk_at "vr"; intro _; walk_at "rs"; intro _; walk_at "rs"))

local macro_rules | `(tactic| walk_at "vr") => `(tactic| (apply v_absS <;> walk_at "vr"))
local macro_rules | `(tactic| walk_at "ar") => `(tactic| exact (show CDiv _ _ from ⟨by omega, by omega⟩))
section
variable {P : Program} {w : World} {K : PySem.W.Frag} {mg : Str → Option Value} {base : Heap}
theorem v_absS {σ : L2.St} {H : Hp} {tr : TA} {i : Int} (h : VA tr σ H [.int i]) : Vl (tCB (fun xs H Q => ∃ i : Int, xs = [.int i] ∧ Q (.int (if i < 0 then -i else i)) H) tr) σ H (.int (size i)) := v_abs h
theorem size_fold (x : Int) : (if x < 0 then -x else x) = size x := rfl
theorem near_own {x y : Int} (h : (-48 ≤ x ∧ x ≤ 48) ∧ -48 ≤ y ∧ y ≤ 48) : ¬ (48 < size x ∨ 48 < size y) := by
  unfold size
  omega
def spCharge (lo hi : Int) : Sp := spFun fun vs v => ∃ c x y : Int, vs = [.int c, .int x, .int y] ∧ ((lo ≤ c ∧ c ≤ hi) ∧ (-48 ≤ x ∧ x ≤ 48) ∧ -48 ≤ y ∧ y ≤ 48) ∧ v = .bl (chargeHas c.toNat x y)
def spOne (c : Nat) : Sp := spFun fun vs v => ∃ x y : Int, vs = [.int x, .int y] ∧ ((-48 ≤ x ∧ x ≤ 48) ∧ -48 ≤ y ∧ y ≤ 48) ∧ v = .bl (chargeHas c x y)
theorem ok_is_round (T : Txt w K mg)  : Cal P w K mg base CX0 1 "is_round" p_is_round (spCharge 0 5) := by
  refine T.d_is_round.cal sc_is_round (fun vs H Q E h => by obtain ⟨_, ⟨_, _, _, rfl, _⟩, _⟩ := h; rfl) ?_
  intro cdv A outer s0 H vs Q E hr h
  have nd := sc_is_round.nd
  have po := poX (CX := CX0) (P := P) (w := w) (K := K) (mg := mg) (base := base) (N := n_is_round) (q := "is_round") (sc := defScope s_is_round) (f := He.ga K "is_round") (cdv := cdv) (A := A) (outer := outer) (s := s0) (H := H) (E := E)
  refine ⟨_, (pss_cons (ps_set (i := 3) nd rfl (Or.inl rfl) (pe_op op_add (pe_op op_mul (pv 1) (pv 1)) (pe_op op_mul (pv 2) (pv 2))))
      (pss_cons (ps_set (i := 4) nd rfl (Or.inl rfl) (pe_op op_add (pe_op op_mul pe_int (pe_callB call_abs (by rfl) T.f_abs (by decide +kernel) (pa_cons (pv 1) pa_nil))) (pe_op op_mul pe_int (pe_callB call_abs (by rfl) T.f_abs (by decide +kernel) (pa_cons (pv 2) pa_nil)))))
      (pss_cons (ps_if (pt_cmpR op_eq (pv 0) pe_int (nomark _)) (pss_one (ps_ret (pe_cmpR op_lt (pv 3) pe_int (nomark _)))) pss_nil)
      (pss_cons (ps_if (pt_cmpR op_eq (pv 0) pe_int (nomark _)) (pss_one (ps_ret (pe_chain op_le op_lt pe_int (pv 3) pe_int))) pss_nil)
      (pss_cons (ps_if (pt_cmpR op_eq (pv 0) pe_int (nomark _)) (pss_one (ps_ret (pe_cmpR op_lt (pv 4) pe_int (nomark _)))) pss_nil)
      (pss_cons (ps_if (pt_cmpR op_eq (pv 0) pe_int (nomark _)) (pss_one (ps_ret (pe_chain op_le op_lt pe_int (pv 4) pe_int))) pss_nil)
      (pss_cons (ps_if (pt_cmpR op_eq (pv 0) pe_int (nomark _)) (pss_one (ps_ret (pe_cmpR op_lt (pe_op op_add (pe_op op_mul pe_int (pe_callB call_abs (by rfl) T.f_abs (by decide +kernel) (pa_cons (pv 1) pa_nil))) (pe_callB call_abs (by rfl) T.f_abs (by decide +kernel) (pa_cons (pv 2) pa_nil))) pe_int (nomark _)))) pss_nil)
      (pss_one (ps_ret (pe_and (pe_cmpR op_lt (pe_callB call_abs (by rfl) T.f_abs (by decide +kernel) (pa_cons (pv 1) pa_nil)) pe_int (nomark _)) (pe_one (pe_cmpR op_lt (pe_callB call_abs (by rfl) T.f_abs (by decide +kernel) (pa_cons (pv 2) pa_nil)) pe_int (nomark _))))))))))))), ?_⟩
  try dsimp only [cxOf]
  clear po nd
  obtain ⟨_, ⟨c, x, y, rfl, ⟨hc, hb⟩, rfl⟩, k⟩ := h
  refine rt_B (b := chargeHas c.toNat x y) (by walk_at "rs") ?_ k
  have hn := near_own hb
  simp only [chargeHas]
  rw [Bool.eq_iff_iff]
  rcases (show c = 0 ∨ c = 1 ∨ c = 2 ∨ c = 3 ∨ c = 4 ∨ c = 5 by omega) with rfl | rfl | rfl | rfl | rfl | rfl <;> simp [within, hn] <;> try omega
theorem ok_is_mullet (T : Txt w K mg)  : Cal P w K mg base CX0 1 "is_mullet" p_is_mullet (spOne 6) := by
  refine T.d_is_mullet.cal sc_is_mullet (fun vs H Q E h => by obtain ⟨_, ⟨_, _, rfl, _⟩, _⟩ := h; rfl) ?_
  intro cdv A outer s0 H vs Q E hr h
  have nd := sc_is_mullet.nd
  have po := poX (CX := CX0) (P := P) (w := w) (K := K) (mg := mg) (base := base) (N := n_is_mullet) (q := "is_mullet") (sc := defScope s_is_mullet) (f := He.ga K "is_mullet") (cdv := cdv) (A := A) (outer := outer) (s := s0) (H := H) (E := E)
  refine ⟨_, (pss_cons (ps_if (PW.pt (pw_and (pt_cmpR op_le (pv 1) pe_int (nomark _)) (pw_and1 (pt_cmpR op_le (pe_op op_mul pe_int (pe_callB call_abs (by rfl) T.f_abs (by decide +kernel) (pa_cons (pv 0) pa_nil))) (pe_op op_mul pe_int (pe_op op_add (pv 1) pe_int)) (nomark _))))) (pss_one (ps_ret pe_bl)) pss_nil)
      (pss_one (ps_ret (pe_and (pe_cmpR op_ge (pv 1) (pe_un un_neg pe_int) (nomark _)) (pe_one (pe_cmpR op_le (pe_op op_mul pe_int (pe_callB call_abs (by rfl) T.f_abs (by decide +kernel) (pa_cons (pv 0) pa_nil))) (pe_op op_mul pe_int (pe_op op_sub pe_int (pv 1))) (nomark _))))))), ?_⟩
  try dsimp only [cxOf]
  clear po nd
  obtain ⟨_, ⟨x, y, rfl, hb, rfl⟩, k⟩ := h
  refine rt_B (b := chargeHas 6 x y) (by walk_at "rs") ?_ k
  have hn := near_own hb
  simp only [chargeHas]
  rw [Bool.eq_iff_iff]
  simp [within, hn]
  try omega
theorem ok_is_crossed (T : Txt w K mg) (u_is_mullet : Cal P w K mg base CX0 1 "is_mullet" p_is_mullet (spOne 6)) : Cal P w K mg base CX0 2 "is_crossed" p_is_crossed (spCharge 6 10) := by
  refine T.d_is_crossed.cal sc_is_crossed (fun vs H Q E h => by obtain ⟨_, ⟨_, _, _, rfl, _⟩, _⟩ := h; rfl) ?_
  intro cdv A outer s0 H vs Q E hr h
  have nd := sc_is_crossed.nd
  have po := poX (CX := CX0) (P := P) (w := w) (K := K) (mg := mg) (base := base) (N := n_is_crossed) (q := "is_crossed") (sc := defScope s_is_crossed) (f := He.ga K "is_crossed") (cdv := cdv) (A := A) (outer := outer) (s := s0) (H := H) (E := E)
  have h_is_mullet : Room (1) _ := hr.mono (by omega)
  refine ⟨_, (pss_cons (ps_set (i := 3) nd rfl (Or.inl rfl) (pe_op op_add (pe_op op_mul (pv 1) (pv 1)) (pe_op op_mul (pv 2) (pv 2))))
      (pss_cons (ps_if (pt_cmpR op_eq (pv 0) pe_int (nomark _)) (pss_one (ps_ret (pe_cal u_is_mullet (h_is_mullet) (p0X (E := E0)) (pa_cons (pv 1) (pa_cons (pv 2) pa_nil))))) pss_nil)
      (pss_cons (ps_if (pt_cmpR op_eq (pv 0) pe_int (nomark _)) (pss_one (ps_ret (pe_and (pe_cmpR op_lt (pv 3) pe_int (nomark _)) (pe_one (pe_cmpR op_ge (pe_op op_add (pe_op op_mul (pv 1) (pv 1)) (pe_op op_mul (pe_op op_add (pv 2) pe_int) (pe_op op_add (pv 2) pe_int))) pe_int (nomark _)))))) pss_nil)
      (pss_cons (ps_if (pt_cmpR op_eq (pv 0) pe_int (nomark _)) (pss_one (ps_ret (pe_and (pe_cmpR op_lt (pv 3) pe_int (nomark _)) (pe_one (pe_cmpR op_ge (pe_op op_add (pe_op op_mul (pe_op op_add (pv 1) pe_int) (pe_op op_add (pv 1) pe_int)) (pe_op op_mul (pv 2) (pv 2))) pe_int (nomark _)))))) pss_nil)
      (pss_cons (ps_if (pt_cmpR op_eq (pv 0) pe_int (nomark _)) (pss_one (ps_ret (pe_or (pe_and (pe_cmpR op_lt (pe_callB call_abs (by rfl) T.f_abs (by decide +kernel) (pa_cons (pv 1) pa_nil)) pe_int (nomark _)) (pe_one (pe_cmpR op_lt (pe_callB call_abs (by rfl) T.f_abs (by decide +kernel) (pa_cons (pv 2) pa_nil)) pe_int (nomark _)))) (pe_one (pe_and (pe_cmpR op_lt (pe_callB call_abs (by rfl) T.f_abs (by decide +kernel) (pa_cons (pv 2) pa_nil)) pe_int (nomark _)) (pe_one (pe_cmpR op_lt (pe_callB call_abs (by rfl) T.f_abs (by decide +kernel) (pa_cons (pv 1) pa_nil)) pe_int (nomark _)))))))) pss_nil)
      (pss_one (ps_ret (pe_and (pe_cmpR op_lt (pe_callB call_abs (by rfl) T.f_abs (by decide +kernel) (pa_cons (pe_op op_sub (pe_callB call_abs (by rfl) T.f_abs (by decide +kernel) (pa_cons (pv 1) pa_nil)) (pe_callB call_abs (by rfl) T.f_abs (by decide +kernel) (pa_cons (pv 2) pa_nil))) pa_nil)) pe_int (nomark _)) (pe_and (pe_cmpR op_lt (pe_callB call_abs (by rfl) T.f_abs (by decide +kernel) (pa_cons (pv 1) pa_nil)) pe_int (nomark _)) (pe_one (pe_cmpR op_lt (pe_callB call_abs (by rfl) T.f_abs (by decide +kernel) (pa_cons (pv 2) pa_nil)) pe_int (nomark _)))))))))))), ?_⟩
  try dsimp only [cxOf]
  clear h_is_mullet po nd
  obtain ⟨_, ⟨c, x, y, rfl, ⟨hc, hb⟩, rfl⟩, k⟩ := h
  refine rt_B (b := chargeHas c.toNat x y) (by walk_at "rs") ?_ k
  have hn := near_own hb
  simp only [chargeHas]
  rw [Bool.eq_iff_iff]
  rcases (show c = 6 ∨ c = 7 ∨ c = 8 ∨ c = 9 ∨ c = 10 by omega) with rfl | rfl | rfl | rfl | rfl <;> simp [within, hn] <;> try omega
theorem ok_is_tower (T : Txt w K mg)  : Cal P w K mg base CX0 1 "is_tower" p_is_tower (spOne 12) := by
  refine T.d_is_tower.cal sc_is_tower (fun vs H Q E h => by obtain ⟨_, ⟨_, _, rfl, _⟩, _⟩ := h; rfl) ?_
  intro cdv A outer s0 H vs Q E hr h
  have nd := sc_is_tower.nd
  have po := poX (CX := CX0) (P := P) (w := w) (K := K) (mg := mg) (base := base) (N := n_is_tower) (q := "is_tower") (sc := defScope s_is_tower) (f := He.ga K "is_tower") (cdv := cdv) (A := A) (outer := outer) (s := s0) (H := H) (E := E)
  refine ⟨_, (pss_cons (ps_if (PW.pt (pw_and (pt_cmpR op_lt (pe_callB call_abs (by rfl) T.f_abs (by decide +kernel) (pa_cons (pv 0) pa_nil)) pe_int (nomark _)) (pw_and1 (pt_chain op_le op_lt (pe_un un_neg pe_int) (pv 1) pe_int)))) (pss_one (ps_ret pe_bl)) pss_nil)
      (pss_one (ps_ret (pe_and (pe_chain op_le op_lt (pe_un un_neg pe_int) (pv 1) (pe_un un_neg pe_int)) (pe_one (pe_or (pe_cmpR op_lt (pe_callB call_abs (by rfl) T.f_abs (by decide +kernel) (pa_cons (pv 0) pa_nil)) pe_int (nomark _)) (pe_one (pe_chain op_le op_lt pe_int (pe_callB call_abs (by rfl) T.f_abs (by decide +kernel) (pa_cons (pv 0) pa_nil)) pe_int)))))))), ?_⟩
  try dsimp only [cxOf]
  clear po nd
  obtain ⟨_, ⟨x, y, rfl, hb, rfl⟩, k⟩ := h
  refine rt_B (b := chargeHas 12 x y) (by walk_at "rs") ?_ k
  have hn := near_own hb
  simp only [chargeHas]
  rw [Bool.eq_iff_iff]
  simp [within, hn]
  try omega
theorem ok_is_wheel (T : Txt w K mg)  : Cal P w K mg base CX0 1 "is_wheel" p_is_wheel (spOne 14) := by
  refine T.d_is_wheel.cal sc_is_wheel (fun vs H Q E h => by obtain ⟨_, ⟨_, _, rfl, _⟩, _⟩ := h; rfl) ?_
  intro cdv A outer s0 H vs Q E hr h
  have nd := sc_is_wheel.nd
  have po := poX (CX := CX0) (P := P) (w := w) (K := K) (mg := mg) (base := base) (N := n_is_wheel) (q := "is_wheel") (sc := defScope s_is_wheel) (f := He.ga K "is_wheel") (cdv := cdv) (A := A) (outer := outer) (s := s0) (H := H) (E := E)
  refine ⟨_, (pss_cons (ps_set (i := 2) nd rfl (Or.inl rfl) (pe_op op_add (pe_op op_mul (pv 0) (pv 0)) (pe_op op_mul (pv 1) (pv 1))))
      (pss_cons (ps_if (pt_chain op_le op_lt pe_int (pv 2) pe_int) (pss_one (ps_ret pe_bl)) pss_nil)
      (pss_one (ps_ret (pe_and (pe_cmpR op_lt (pv 2) pe_int (nomark _)) (pe_one (pe_or (pe_cmpR op_lt (pe_callB call_abs (by rfl) T.f_abs (by decide +kernel) (pa_cons (pv 0) pa_nil)) pe_int (nomark _)) (pe_one (pe_cmpR op_lt (pe_callB call_abs (by rfl) T.f_abs (by decide +kernel) (pa_cons (pv 1) pa_nil)) pe_int (nomark _)))))))))), ?_⟩
  try dsimp only [cxOf]
  clear po nd
  obtain ⟨_, ⟨x, y, rfl, hb, rfl⟩, k⟩ := h
  refine rt_B (b := chargeHas 14 x y) (by walk_at "rs") ?_ k
  have hn := near_own hb
  simp only [chargeHas]
  rw [Bool.eq_iff_iff]
  simp [within, hn]
  try omega
theorem ok_is_arrow (T : Txt w K mg)  : Cal P w K mg base CX0 1 "is_arrow" p_is_arrow (spOne 15) := by
  refine T.d_is_arrow.cal sc_is_arrow (fun vs H Q E h => by obtain ⟨_, ⟨_, _, rfl, _⟩, _⟩ := h; rfl) ?_
  intro cdv A outer s0 H vs Q E hr h
  have nd := sc_is_arrow.nd
  have po := poX (CX := CX0) (P := P) (w := w) (K := K) (mg := mg) (base := base) (N := n_is_arrow) (q := "is_arrow") (sc := defScope s_is_arrow) (f := He.ga K "is_arrow") (cdv := cdv) (A := A) (outer := outer) (s := s0) (H := H) (E := E)
  refine ⟨_, (pss_cons (ps_if (PW.pt (pw_and (pt_cmpR op_lt (pe_callB call_abs (by rfl) T.f_abs (by decide +kernel) (pa_cons (pv 0) pa_nil)) pe_int (nomark _)) (pw_and1 (pt_cmpR op_lt (pe_callB call_abs (by rfl) T.f_abs (by decide +kernel) (pa_cons (pv 1) pa_nil)) pe_int (nomark _))))) (pss_one (ps_ret pe_bl)) pss_nil)
      (pss_one (ps_ret (pe_or (pe_and (pe_chain op_le op_lt (pe_un un_neg pe_int) (pv 1) (pe_un un_neg pe_int)) (pe_one (pe_cmpR op_lt (pe_op op_mul pe_int (pe_callB call_abs (by rfl) T.f_abs (by decide +kernel) (pa_cons (pv 0) pa_nil))) (pe_op op_add (pv 1) pe_int) (nomark _)))) (pe_one (pe_and (pe_chain op_le op_lt pe_int (pv 1) pe_int) (pe_one (pe_cmpR op_lt (pe_callB call_abs (by rfl) T.f_abs (by decide +kernel) (pa_cons (pv 0) pa_nil)) pe_int (nomark _))))))))), ?_⟩
  try dsimp only [cxOf]
  clear po nd
  obtain ⟨_, ⟨x, y, rfl, hb, rfl⟩, k⟩ := h
  refine rt_B (b := chargeHas 15 x y) (by walk_at "rs") ?_ k
  have hn := near_own hb
  simp only [chargeHas]
  rw [Bool.eq_iff_iff]
  simp [within, hn]
  try omega
def spHas : Sp := spFun fun vs v => ∃ c x y : Int, vs = [.int c, .int x, .int y] ∧ (0 ≤ c ∧ c ≤ 15) ∧ v = .bl (chargeHas c.toNat x y)
theorem ok_has_charge (T : Txt w K mg) (u_is_round : Cal P w K mg base CX0 1 "is_round" p_is_round (spCharge 0 5)) (u_is_crossed : Cal P w K mg base CX0 2 "is_crossed" p_is_crossed (spCharge 6 10)) (u_is_tower : Cal P w K mg base CX0 1 "is_tower" p_is_tower (spOne 12)) (u_is_wheel : Cal P w K mg base CX0 1 "is_wheel" p_is_wheel (spOne 14)) (u_is_arrow : Cal P w K mg base CX0 1 "is_arrow" p_is_arrow (spOne 15)) : Cal P w K mg base CX0 3 "has_charge" p_has_charge spHas := by
  refine T.d_has_charge.cal sc_has_charge (fun vs H Q E h => by obtain ⟨_, ⟨_, _, _, rfl, _⟩, _⟩ := h; rfl) ?_
  intro cdv A outer s0 H vs Q E hr h
  have nd := sc_has_charge.nd
  have po := poX (CX := CX0) (P := P) (w := w) (K := K) (mg := mg) (base := base) (N := n_has_charge) (q := "has_charge") (sc := defScope s_has_charge) (f := He.ga K "has_charge") (cdv := cdv) (A := A) (outer := outer) (s := s0) (H := H) (E := E)
  have h_is_round : Room (1) _ := hr.mono (by omega)
  have h_is_crossed : Room (2) _ := hr.mono (by omega)
  have h_is_tower : Room (1) _ := hr.mono (by omega)
  have h_is_wheel : Room (1) _ := hr.mono (by omega)
  have h_is_arrow : Room (1) _ := hr.mono (by omega)
  refine ⟨_, (pss_cons (ps_if (PW.pt (pw_or (pt_cmpR op_gt (pe_callB call_abs (by rfl) T.f_abs (by decide +kernel) (pa_cons (pv 1) pa_nil)) (pe_gi T.i_REACH) (nomark _)) (pw_or1 (pt_cmpR op_gt (pe_callB call_abs (by rfl) T.f_abs (by decide +kernel) (pa_cons (pv 2) pa_nil)) (pe_gi T.i_REACH) (nomark _))))) (pss_one (ps_ret pe_bl)) pss_nil)
      (pss_cons (ps_if (pt_cmpR op_le (pv 0) pe_int (nomark _)) (pss_one (ps_ret (pe_cal u_is_round (h_is_round) (p0X (E := E0)) (pa_cons (pv 0) (pa_cons (pv 1) (pa_cons (pv 2) pa_nil)))))) pss_nil)
      (pss_cons (ps_if (pt_cmpR op_le (pv 0) pe_int (nomark _)) (pss_one (ps_ret (pe_cal u_is_crossed (h_is_crossed) (p0X (E := E0)) (pa_cons (pv 0) (pa_cons (pv 1) (pa_cons (pv 2) pa_nil)))))) pss_nil)
      (pss_cons (ps_if (pt_cmpR op_eq (pv 0) pe_int (nomark _)) (pss_one (ps_ret (pe_and (pe_cmpR op_lt (pe_callB call_abs (by rfl) T.f_abs (by decide +kernel) (pa_cons (pv 1) pa_nil)) pe_int (nomark _)) (pe_and (pe_cmpR op_ge (pv 2) (pe_un un_neg pe_int) (nomark _)) (pe_one (pe_cmpR op_lt (pe_op op_add (pe_op op_mul pe_int (pe_callB call_abs (by rfl) T.f_abs (by decide +kernel) (pa_cons (pv 1) pa_nil))) (pv 2)) pe_int (nomark _))))))) pss_nil)
      (pss_cons (ps_if (pt_cmpR op_eq (pv 0) pe_int (nomark _)) (pss_one (ps_ret (pe_cal u_is_tower (h_is_tower) (p0X (E := E0)) (pa_cons (pv 1) (pa_cons (pv 2) pa_nil))))) pss_nil)
      (pss_cons (ps_if (pt_cmpR op_eq (pv 0) pe_int (nomark _)) (pss_one (ps_ret (pe_or (pe_and (pe_cmpR op_lt (pe_callB call_abs (by rfl) T.f_abs (by decide +kernel) (pa_cons (pv 1) pa_nil)) pe_int (nomark _)) (pe_one (pe_cmpR op_lt (pe_callB call_abs (by rfl) T.f_abs (by decide +kernel) (pa_cons (pv 2) pa_nil)) pe_int (nomark _)))) (pe_one (pe_and (pe_cmpR op_lt (pe_callB call_abs (by rfl) T.f_abs (by decide +kernel) (pa_cons (pv 1) pa_nil)) pe_int (nomark _)) (pe_one (pe_chain op_le op_lt pe_int (pv 2) pe_int))))))) pss_nil)
      (pss_one (ps_ret (pe_ifExp (pt_cmpR op_eq (pv 0) pe_int (nomark _)) (pe_cal u_is_wheel (h_is_wheel) (p0X (E := E0)) (pa_cons (pv 1) (pa_cons (pv 2) pa_nil))) (pe_cal u_is_arrow (h_is_arrow) (p0X (E := E0)) (pa_cons (pv 1) (pa_cons (pv 2) pa_nil)))))))))))), ?_⟩
  try dsimp only [cxOf]
  clear h_is_arrow h_is_wheel h_is_tower h_is_crossed h_is_round po nd
  obtain ⟨_, ⟨c, x, y, rfl, hc, rfl⟩, k⟩ := h
  refine a_when (by walk_at "vr") (fun q => ?_) fun q => ?_
  · refine rt_B (b := chargeHas c.toNat x y) (by walk_at "rs") ?_ k
    simp only [Bool.or_eq_true, decide_eq_true_eq] at q
    simp only [chargeHas]
    rw [eq_comm]
    exact if_pos q
  have hb : (-48 ≤ x ∧ x ≤ 48) ∧ -48 ≤ y ∧ y ≤ 48 := by
    simp only [Bool.or_eq_false_iff, decide_eq_false_iff_not] at q
    unfold size at q
    omega
  have hn := near_own hb
  refine a_when (by walk_at "vr") (fun c1 => ?_) fun c1 => ?_
  · have c1' := of_decide_eq_true c1
    exact rt_B (b := chargeHas c.toNat x y) (by walk_at "rs") rfl k
  have c1' := of_decide_eq_false c1
  refine a_when (by walk_at "vr") (fun c2 => ?_) fun c2 => ?_
  · have c2' := of_decide_eq_true c2
    exact rt_B (b := chargeHas c.toNat x y) (by walk_at "rs") rfl k
  have c2' := of_decide_eq_false c2
  refine rt_B (b := chargeHas c.toNat x y) (by walk_at "rs") ?_ k
  clear q
  simp only [chargeHas]
  rw [Bool.eq_iff_iff]
  rcases (show c = 11 ∨ c = 12 ∨ c = 13 ∨ c = 14 ∨ c = 15 by omega) with rfl | rfl | rfl | rfl | rfl
  all_goals simp [within, hn]
  all_goals try omega
def spPartOf : Sp := spFun fun vs v => ∃ a k n : Int, vs = [.int a, .int k, .int n] ∧ ((0 ≤ a ∧ a ≤ 576) ∧ (0 ≤ k ∧ k ≤ 10) ∧ 1 ≤ n ∧ n ≤ 10) ∧ v = .int (a * (2 * k + 1) / (2 * n))
theorem ok_part_of (T : Txt w K mg)  : Cal P w K mg base CX0 1 "part_of" p_part_of spPartOf := by
  refine T.d_part_of.cal sc_part_of (fun vs H Q E h => by obtain ⟨_, ⟨_, _, _, rfl, _⟩, _⟩ := h; rfl) ?_
  intro cdv A outer s0 H vs Q E hr h
  have nd := sc_part_of.nd
  have po := poX (CX := CX0) (P := P) (w := w) (K := K) (mg := mg) (base := base) (N := n_part_of) (q := "part_of") (sc := defScope s_part_of) (f := He.ga K "part_of") (cdv := cdv) (A := A) (outer := outer) (s := s0) (H := H) (E := E)
  refine ⟨_, (pss_one (ps_ret (pe_op op_fdiv (pe_op op_mul (pv 0) (pe_op op_add (pe_op op_mul pe_int (pv 1)) pe_int)) (pe_op op_mul pe_int (pv 2))))), ?_⟩
  try dsimp only [cxOf]
  clear po nd
  obtain ⟨_, ⟨a, k', n, rfl, hc, rfl⟩, k⟩ := h
  exact rt_I (j := a * (2 * k' + 1) / (2 * n)) (by walk_at "rs") rfl k
end
end Hc

namespace Hc
open PySem PySem.Spec PyProof.Rows L2
open Sh ShMarsh
set_option hygiene false
local macro_rules | `(tactic| walk_at "hp") => `(tactic| first | assumption | exact Src.ob (by assumption) | exact Rdr.ob (by assumption) | exact upd_same)
local macro_rules | `(tactic| walk_at "sq") => `(tactic| first | assumption | exact Src.sq (by assumption) | exact Rdr.sq (by assumption) | exact SqL.of (by assumption) | exact SqL.of upd_same | exact SqT.of (by assumption) | exact SqT.of upd_same)
local macro_rules | `(tactic| walk_at "cl") => `(tactic| with_reducible first | exact T.c_Bytes | exact T.c_Coat | exact T.c_Arms | exact T.c_Layer | exact T.c_Token | exact T.c_Reader | exact T.c_Words)
local macro_rules | `(tactic| walk_at "na") => `(tactic| with_reducible first | exact T.n_Bytes_some | exact T.n_Bytes_at | exact T.n_Coat_kind | exact T.n_Coat_arms | exact T.n_Coat_canton | exact T.n_Coat_marks | exact T.n_Coat_coats | exact T.n_Arms_field | exact T.n_Arms_layers | exact T.n_Layer_kind | exact T.n_Layer_numbers | exact T.n_Layer_fill | exact T.n_Token_kind | exact T.n_Token_value | exact T.n_Token_place | exact T.n_Token_behind | exact T.n_Reader_some | exact T.n_Reader_at | exact T.n_Reader_end | exact T.n_Words_some | exact T.n_Words_at)
local macro_rules | `(tactic| walk_at "ai") => `(tactic| first | assumption | exact atI_nat (by assumption) | rfl)
local macro_rules | `(tactic| walk_at "rd1") => `(tactic| first
  | refine ⟨_, rfl, ?_⟩
  | refine ⟨rfl, ?_⟩
  | refine ⟨_, _, rfl, rfl, ?_⟩
  | refine ⟨_, _, _, _, _, rfl, (by walk_at "hp"), (by walk_at "cl"), (by walk_at "na"), (by rfl), ?_⟩
  | refine ⟨_, _, _, _, rfl, (by walk_at "hp"), (by walk_at "cl"), (by walk_at "na"), Nat.le_of_ble_eq_true rfl, ?_⟩
  | refine ⟨_, _, _, _, rfl, rfl, (by walk_at "sq"), (by walk_at "ai"), ?_⟩
  | refine ⟨_, _, rfl, (by first | exact Or.inl (by walk_at "sq") | exact Or.inr (by walk_at "sq")), ?_⟩
  | refine ⟨(by walk_at "ar"), ?_⟩)
local macro_rules | `(tactic| walk_at "ar") => `(tactic| first | exact (show CDiv _ _ from ⟨by decide, by decide⟩) | exact (show (0 : Int) < _ from by decide) | exact (show CMul _ _ from .inl ⟨by omega, by omega⟩) | exact (show CMul _ _ from .inr ⟨by omega, by omega⟩))
local macro_rules | `(tactic| walk_at "rd") => `(tactic| repeat walk_at "rd1")
local macro_rules | `(tactic| walk_at "fa") => `(tactic| first | exact ⟨_, rfl, (by omega), rfl⟩ | exact ⟨_, _, rfl, (by omega), rfl⟩ | exact ⟨_, _, _, rfl, (by omega), rfl⟩ | exact ⟨_, _, _, _, rfl, (by omega), rfl⟩ | exact ⟨_, _, _, _, _, rfl, (by omega), rfl⟩)
local macro_rules | `(tactic| walk_at "vr") => `(tactic| first
  | exact v_var (by rfl)
  | exact v_c
  | (apply v_i0 <;> walk_at "vr")
  | (apply v_i <;> first | walk_at "ar" | walk_at "vr")
  | (apply v_neg <;> walk_at "vr")
  | (apply v_eq <;> walk_at "vr")
  | (apply v_eqB <;> walk_at "vr")
  | (apply v_ne <;> walk_at "vr")
  | (apply v_neB <;> walk_at "vr")
  | (apply v_chain (g := fun _ _ => _) (g' := fun _ _ => _) <;> walk_at "vr")
  | (apply v_and <;> walk_at "vr")
  | (apply v_or <;> walk_at "vr")
  | (apply v_not <;> walk_at "vr")
  | (apply v_ifI <;> walk_at "vr")
  | (apply v_ifB <;> walk_at "vr")
  | (apply v_call <;> first | walk_at "fa" | walk_at "vr")
  | (apply v_abs <;> walk_at "vr")
  | (apply v_min <;> walk_at "vr")
  | exact va_nil
  | (apply va_cons <;> walk_at "vr")
  | (apply a_test <;> walk_at "vr")
  | (apply a_B <;> walk_at "vr")
  | (apply a_and <;> walk_at "vr")
  | (apply a_or <;> walk_at "vr")
  | (apply a_not <;> walk_at "vr"))
local macro_rules | `(tactic| walk_at "rs") => `(tactic| first
  | (apply r_ret; walk_at "vr")
  | (apply r_set; walk_at "vr"; walk_at "rs")
  | (apply r_ifI; walk_at "vr"; intro _; walk_at "rs"; intro _; walk_at "rs")
  | (apply r_ifB; walk_at "vr"; intro _; walk_at "rs"; intro _; walk_at "rs"))

local macro_rules | `(tactic| walk_at "na") => `(tactic| with_reducible first | exact T.n_Middle_m | exact T.n_Middle_n | exact T.n_Middle_half)
local macro_rules | `(tactic| walk_at "cl") => `(tactic| with_reducible first | exact T.c_Middle)
section
variable {P : Program} {w : World} {K : PySem.W.Frag} {mg : Str → Option Value} {base : Heap}
def middleF (a b c : V) : List (Str × V) := [("m", a), ("n", b), ("half", c)]
def spI_Middle (K : PySem.W.Frag) : Sp := fun vs H Q _ => ∃ (x dx : Addr) (a b c : V), vs = [.ref x, a, b, c] ∧ H x = some (.ins (He.ga K "Middle") dx []) ∧ ∀ H', Bt x H H' → H' x = some (.ins (He.ga K "Middle") dx (middleF a b c)) → Q .non H'
theorem ok_Middle_init (T : Txt w K mg) : Mak P w K mg base 1 "Middle" p_Middle_init (spI_Middle K) := by
  refine ⟨T.di_Middle.ok sc_Middle_init (fun vs H Q E h => by obtain ⟨_, _, _, _, _, rfl, _⟩ := h; rfl) ?_, T.m_Middle, T.g_Middle⟩
  intro cdv A outer s0 H vs Q E hr h
  refine ⟨_, (pss_cons (ps_fld (pv 0) (pv 1) rfl)
      (pss_cons (ps_fld (pv 0) (pv 2) rfl)
      (pss_one (ps_fld (pv 0) (pv 3) rfl)))), ?_⟩
  try dsimp only [cxOf]
  obtain ⟨x, dx, a, b, c, rfl, hx, k⟩ := h
  walk_at "rd"
  exact k _ (Bt.refl.put.put.put) upd_same
theorem mk_Middle {K : PySem.W.Frag} {H1 : Hp} {Q : Addr → Hp → Prop} {E : XK} {a b c : V} (k : ∀ x dx H', H1 x = none → Same H1 H' → H' x = some (.ins (He.ga K "Middle") dx (middleF a b c)) → Q x H') :
    ∀ x dx, H1 x = none → H1 dx = none → dx ≠ x → spI_Middle K (.ref x :: ([a, b, c] ++ [])) (upd (upd H1 dx (.own x)) x (.ins (He.ga K "Middle") dx [])) (fun v H2 => v = .non ∧ Q x H2) E :=
  fun x dx nx nd ne => ⟨x, dx, a, b, c, rfl, upd_same, fun H' e h => ⟨rfl, k x dx H' nx (Same.made2 nx nd e) h⟩⟩
def IsMid (K : PySem.W.Frag) (h : Nat) : Hp → V → Nat × Nat → Prop := fun H v m => ∃ x dx, v = .ref x ∧ H x = some (.ins (He.ga K "Middle") dx (middleF (iv m.1) (iv m.2) (iv h)))
theorem IsMid.up {K : PySem.W.Frag} {h : Nat} {H H' : Hp} {v : V} {m : Nat × Nat} (e : Same H H') (q : IsMid K h H v m) : IsMid K h H' v m := let ⟨x, dx, h1, h2⟩ := q; ⟨x, dx, h1, e _ _ h2⟩
theorem Same.put2 {H : Hp} {p : Addr} {o o2 : HO} (hp : H p = none) : Same H (upd (upd H p o) p o2) := fun b u h => by
  have ne : b ≠ p := fun z => by
    rw [z, hp] at h
    cases h
  rw [upd_ne ne, upd_ne ne]
  exact h
theorem a_set {D : Ends} {σ : L2.St} {H : Hp} {te : TE} {n : Nat} {v : V} {t3 : TS} (h : Vl te σ H v) (k : t3 D (σ.set n (some v)) H) : tSeq (tAsg te (gName n)) t3 D σ H := h _ k
def half0 (m n : Nat) : Nat := if m = 1 then min (240 / n) 84 else if m = 2 then min (288 / n) 72 else if m = 3 then min (240 / n) 96 else if m = 4 then min (240 / n) 96 else if m = 5 then min (240 / n) 72 else min (240 / n) 64
theorem min_nat (a b : Nat) : (if (b : Int) < (a : Int) then (b : Int) else (a : Int)) = ((min a b : Nat) : Int) := by
  by_cases h : b < a
  · rw [if_pos (by omega)]; omega
  · rw [if_neg (by omega)]; omega
def spHalf : Sp := fun vs H Q _ => ∃ m n : Nat, vs = [.int (m : Int), .int (n : Int)] ∧ (1 ≤ m ∧ m ≤ 6) ∧ (1 ≤ n ∧ n ≤ 10) ∧ ∀ H', Same H H' → Q (.int (half0 m n : Nat)) H'
theorem ok_half_of (T : Txt w K mg)  : Cal P w K mg base CX0 1 "half_of" p_half_of spHalf := by
  refine T.d_half_of.cal sc_half_of (fun vs H Q E h => by obtain ⟨_, _, rfl, _⟩ := h; rfl) ?_
  intro cdv A outer s0 H vs Q E hr h
  have nd := sc_half_of.nd
  have po := poX (CX := CX0) (P := P) (w := w) (K := K) (mg := mg) (base := base) (N := n_half_of) (q := "half_of") (sc := defScope s_half_of) (f := He.ga K "half_of") (cdv := cdv) (A := A) (outer := outer) (s := s0) (H := H) (E := E)
  refine ⟨_, (pss_cons (ps_if (pt_cmpR op_eq (pv 0) pe_int (nomark _)) (pss_one (ps_ret (pe_callB (call_min2 rfl) (by rfl) T.f_min (by decide +kernel) (pa_cons (pe_op op_fdiv pe_int (pv 1)) (pa_cons pe_int pa_nil))))) pss_nil)
      (pss_one (ps_ret (pe_callB (call_min2 rfl) (by rfl) T.f_min (by decide +kernel) (pa_cons (pe_op op_fdiv pe_int (pv 1)) (pa_cons (pe_dget (hu_of hr) (pe_disp (pps_cons pe_int pe_int (pps_cons pe_int pe_int (pps_cons pe_int pe_int (pps_cons pe_int pe_int (pps_cons pe_int pe_int pps_nil))))) (by rfl) (by rfl) (fun z => by cases z) (by decide)) (pv 0) (fun _ _ => rfl)) pa_nil)))))), ?_⟩
  try dsimp only [cxOf]
  clear po nd
  obtain ⟨m, n, rfl, hm, hn, k⟩ := h
  refine a_when (by walk_at "vr") (fun c => ?_) fun c => ?_
  · have c' := of_decide_eq_true c
    have e2 : m = 2 := by omega
    subst e2
    refine rt_I (j := (half0 2 n : Nat)) (r_ret (v_min (va_cons (v_i v_c (v_var (by rfl)) ⟨by omega, by omega⟩) (va_cons v_c va_nil)))) ?_ (k _ (Same.refl H))
    have z := min_nat (288 / n) 72
    exact z
  · have c' := of_decide_eq_false c
    have em : m = 1 ∨ m = 3 ∨ m = 4 ∨ m = 5 ∨ m = 6 := by omega
    dsimp only [tRet, tCB, tCons]
    refine v_i (C := CDiv) (i := 240) (j := (n : Int)) v_c (v_var (by rfl)) ⟨by omega, by omega⟩ _ ?_
    intro p hp
    refine ⟨upd_same, [(.inl 1, .int 84), (.inl 3, .int 96), (.inl 4, .int 96), (.inl 5, .int 72), (.inl 6, .int 64)], rfl, by decide, ?_⟩
    refine ⟨_, rfl, ?_⟩
    have sa : ∀ (o o2 : HO), Same H (upd (upd H p o) p o2) := fun o o2 => Hc.Same.put2 hp
    rcases em with rfl | rfl | rfl | rfl | rfl
    · exact ⟨p, .int 84, rfl, DGet.k (k := .inl 1) upd_same, _, _, rfl, by rw [show (84 : Int) = ((84 : Nat) : Int) from rfl, show (240 : Int) / (n : Int) = ((240 / n : Nat) : Int) from rfl, min_nat]; exact k _ (sa _ _)⟩
    · exact ⟨p, .int 96, rfl, DGet.k (k := .inl 3) upd_same, _, _, rfl, by rw [show (96 : Int) = ((96 : Nat) : Int) from rfl, show (240 : Int) / (n : Int) = ((240 / n : Nat) : Int) from rfl, min_nat]; exact k _ (sa _ _)⟩
    · exact ⟨p, .int 96, rfl, DGet.k (k := .inl 4) upd_same, _, _, rfl, by rw [show (96 : Int) = ((96 : Nat) : Int) from rfl, show (240 : Int) / (n : Int) = ((240 / n : Nat) : Int) from rfl, min_nat]; exact k _ (sa _ _)⟩
    · exact ⟨p, .int 72, rfl, DGet.k (k := .inl 5) upd_same, _, _, rfl, by rw [show (72 : Int) = ((72 : Nat) : Int) from rfl, show (240 : Int) / (n : Int) = ((240 / n : Nat) : Int) from rfl, min_nat]; exact k _ (sa _ _)⟩
    · exact ⟨p, .int 64, rfl, DGet.k (k := .inl 6) upd_same, _, _, rfl, by rw [show (64 : Int) = ((64 : Nat) : Int) from rfl, show (240 : Int) / (n : Int) = ((240 / n : Nat) : Int) from rfl, min_nat]; exact k _ (sa _ _)⟩
/-- the middle of the k-th of n in a manner but rows -/
def midF (m n k : Nat) : Nat × Nat := if m = 1 then (480 * (2 * k + 1) / (2 * n), 288) else if m = 2 then (240, 576 * (2 * k + 1) / (2 * n)) else if m = 3 then (480 * (2 * k + 1) / (2 * n), 576 * (2 * k + 1) / (2 * n)) else if m = 4 then (480 - 480 * (2 * k + 1) / (2 * n), 576 * (2 * k + 1) / (2 * n)) else if m = 5 then (480 * (2 * k + 1) / (2 * n), 80) else (480 * (2 * k + 1) / (2 * n), 504)
theorem middles_mid {m n : Nat} (h : m ≠ 0) : middles m n = (List.range n).map (midF m n) := by
  unfold middles
  simp only [h, if_false]
  rfl
theorem one_le {k n : Nat} (h : k < n) : 480 * (2 * k + 1) / (2 * n) ≤ 480 := by
  have : 480 * (2 * k + 1) ≤ 480 * (2 * n) := Nat.mul_le_mul_left _ (by omega)
  exact Nat.div_le_of_le_mul (by rw [Nat.mul_comm (2 * n)]; exact this)
def spMid (K : PySem.W.Frag) : Sp := fun vs H Q _ => ∃ m k n h : Nat, vs = [.int (m : Int), .int (k : Int), .int (n : Int), .int (h : Int)] ∧ (1 ≤ m ∧ m ≤ 6) ∧ k < n ∧ n ≤ 10 ∧ ∀ v H', Same H H' → IsMid K h H' v (midF m n k) → Q v H'
theorem ok_middle_of (T : Txt w K mg) (u_part_of : Cal P w K mg base CX0 1 "part_of" p_part_of spPartOf) (m_Middle : Mak P w K mg base 1 "Middle" p_Middle_init (spI_Middle K)) : Cal P w K mg base CX0 3 "middle_of" p_middle_of (spMid K) := by
  refine T.d_middle_of.cal sc_middle_of (fun vs H Q E h => by obtain ⟨_, _, _, _, rfl, _⟩ := h; rfl) ?_
  intro cdv A outer s0 H vs Q E hr h
  have nd := sc_middle_of.nd
  have po := poX (CX := CX0) (P := P) (w := w) (K := K) (mg := mg) (base := base) (N := n_middle_of) (q := "middle_of") (sc := defScope s_middle_of) (f := He.ga K "middle_of") (cdv := cdv) (A := A) (outer := outer) (s := s0) (H := H) (E := E)
  have h_part_of : Room (1) _ := hr.mono (by omega)
  have h_Middle : Room (2) _ := hr.mono (by omega)
  refine ⟨_, (pss_cons (ps_set (i := 4) nd rfl (Or.inl rfl) (pe_cal u_part_of (h_part_of) (p0X (E := E0)) (pa_cons (pe_gi T.i_WIDE) (pa_cons (pv 1) (pa_cons (pv 2) pa_nil)))))
      (pss_cons (ps_set (i := 5) nd rfl (Or.inl rfl) (pe_cal u_part_of (h_part_of) (p0X (E := E0)) (pa_cons (pe_gi T.i_HIGH) (pa_cons (pv 1) (pa_cons (pv 2) pa_nil)))))
      (pss_cons (ps_if (pt_cmpR op_eq (pv 0) pe_int (nomark _)) (pss_one (ps_ret (pe_mak m_Middle (h_Middle) (pa_cons pe_int (pa_cons (pv 5) (pa_cons (pv 3) pa_nil)))))) pss_nil)
      (pss_cons (ps_if (pt_cmpR op_eq (pv 0) pe_int (nomark _)) (pss_one (ps_ret (pe_mak m_Middle (h_Middle) (pa_cons (pe_op op_sub (pe_gi T.i_WIDE) (pv 4)) (pa_cons (pv 5) (pa_cons (pv 3) pa_nil)))))) pss_nil)
      (pss_one (ps_ret (pe_mak m_Middle (h_Middle) (pa_cons (pv 4) (pa_cons (pe_dget (hu_of hr) (pe_disp (pps_cons pe_int pe_int (pps_cons pe_int (pv 5) (pps_cons pe_int pe_int (pps_cons pe_int pe_int pps_nil)))) (by rfl) (by rfl) (fun z => by cases z) (by decide)) (pv 0) (fun _ _ => rfl)) (pa_cons (pv 3) pa_nil)))))))))), ?_⟩
  try dsimp only [cxOf]
  clear h_Middle h_part_of po nd
  obtain ⟨m, k', n, h, rfl, hm, hk, hn, k⟩ := h
  have e1 : (480 : Int) * (2 * (k' : Int) + 1) / (2 * (n : Int)) = ((480 * (2 * k' + 1) / (2 * n) : Nat) : Int) := by simp
  have e2 : (576 : Int) * (2 * (k' : Int) + 1) / (2 * (n : Int)) = ((576 * (2 * k' + 1) / (2 * n) : Nat) : Int) := by simp
  have h1 := one_le hk
  refine a_set (by walk_at "vr") ?_
  refine a_set (by walk_at "vr") ?_
  rw [e1, e2]
  refine a_when (by walk_at "vr") (fun c => ?_) fun c => ?_
  · have c' := of_decide_eq_true c
    have em : m = 2 := by omega
    subst em
    walk_at "rd"
    exact mk_Middle fun x dx H' nx sa hx => k _ _ sa ⟨x, dx, rfl, hx⟩
  have n2 := of_decide_eq_false c
  refine a_when (by walk_at "vr") (fun c => ?_) fun c => ?_
  · have c' := of_decide_eq_true c
    have em : m = 4 := by omega
    subst em
    walk_at "rd"
    refine mk_Middle fun x dx H' nx sa hx => k _ _ sa ⟨x, dx, rfl, ?_⟩
    rw [hx]
    show some (HO.ins _ dx (middleF (.int (480 - ((480 * (2 * k' + 1) / (2 * n) : Nat) : Int))) _ _)) = some (HO.ins _ dx (middleF (.int ((480 - 480 * (2 * k' + 1) / (2 * n) : Nat) : Int)) _ _))
    rw [show ((480 - 480 * (2 * k' + 1) / (2 * n) : Nat) : Int) = 480 - ((480 * (2 * k' + 1) / (2 * n) : Nat) : Int) by omega]
    rfl
  have n4 := of_decide_eq_false c
  have em : m = 1 ∨ m = 3 ∨ m = 5 ∨ m = 6 := by omega
  walk_at "rd"
  intro p hp
  refine ⟨_, rfl, upd_same, [(.inl 1, .int 288), (.inl 3, .int ((576 * (2 * k' + 1) / (2 * n) : Nat) : Int)), (.inl 5, .int 80), (.inl 6, .int 504)], rfl, Nat.le_of_ble_eq_true rfl, ?_⟩
  refine ⟨_, rfl, ?_⟩
  have sa : ∀ (o o2 : HO), Same H (upd (upd H p o) p o2) := fun o o2 => Hc.Same.put2 hp
  rcases em with rfl | rfl | rfl | rfl
  · exact ⟨p, _, rfl, DGet.k (k := .inl 1) upd_same, _, rfl, mk_Middle fun x dx H' nx sa2 hx => k _ _ (fun b o z => sa2 _ _ (sa _ _ _ _ z)) ⟨x, dx, rfl, hx⟩⟩
  · exact ⟨p, _, rfl, DGet.k (k := .inl 3) upd_same, _, rfl, mk_Middle fun x dx H' nx sa2 hx => k _ _ (fun b o z => sa2 _ _ (sa _ _ _ _ z)) ⟨x, dx, rfl, hx⟩⟩
  · exact ⟨p, _, rfl, DGet.k (k := .inl 5) upd_same, _, rfl, mk_Middle fun x dx H' nx sa2 hx => k _ _ (fun b o z => sa2 _ _ (sa _ _ _ _ z)) ⟨x, dx, rfl, hx⟩⟩
  · exact ⟨p, _, rfl, DGet.k (k := .inl 6) upd_same, _, rfl, mk_Middle fun x dx H' nx sa2 hx => k _ _ (fun b o z => sa2 _ _ (sa _ _ _ _ z)) ⟨x, dx, rfl, hx⟩⟩
/-- a list of middles -/
def IsMids (K : PySem.W.Frag) (h : Nat) (H : Hp) (vs : List V) (ms : List (Nat × Nat)) : Prop := Paired (IsMid K h H) vs ms
theorem IsMids.up {K : PySem.W.Frag} {h : Nat} {H H' : Hp} {vs : List V} {ms : List (Nat × Nat)} (e : Same H H') (q : IsMids K h H vs ms) : IsMids K h H' vs ms := Paired.up q fun _ _ z => IsMid.up e z
theorem IsMid.put {K : PySem.W.Frag} {h : Nat} {H : Hp} {v : V} {m : Nat × Nat} {D : Addr} {vs : List V} {o : HO} (hD : H D = some (.lst vs)) (q : IsMid K h H v m) : IsMid K h (upd H D o) v m := by
  obtain ⟨x, dx, rfl, hx⟩ := q
  refine ⟨x, dx, rfl, ?_⟩
  rw [upd_ne (fun z => by rw [z, hD] at hx; cases hx)]
  exact hx
theorem IsMids.put {K : PySem.W.Frag} {h : Nat} {H : Hp} {vs : List V} {ms : List (Nat × Nat)} {D : Addr} {us : List V} {o : HO} (hD : H D = some (.lst us)) (q : IsMids K h H vs ms) : IsMids K h (upd H D o) vs ms := Paired.up q fun _ _ z => IsMid.put hD z
/-- a comprehension over a range that makes middles -/
theorem mids_range {K : PySem.W.Frag} {h j n : Nat} {H : Hp} {σ : L2.St} {Q : VK} {te : TE} {f : Nat → Nat × Nat} {ta : TA} (hta : ∀ Q' : List V → Hp → Prop, Q' [.int (n : Int)] H → ta σ H Q') (hn : n ≤ 10)
    (hj : ∀ v : V, ((σ.set j none).set j (some v)).set j none = σ.set j none)
    (hs : ∀ (i : Nat) (H' : Hp) (Q' : VK), i < n → Same H H' → (∀ v H2, Same H' H2 → IsMid K h H2 v (f i) → Q' v H2) → te ((wipe σ [j]).set j (some (.int (i : Int)))) H' Q')
    (k : ∀ D H' vs, Same H H' → H D = none → H' D = some (.lst vs) → IsMids K h H' vs ((List.range n).map f) → Q (.ref D) H') :
    tLc (iRng1 ta) (gName j) tYes te [j] σ H Q := by
  refine hta _ ⟨(n : Int), rfl, by omega, by omega, fun D nD => lc_it (walk_range) (fun i H' => Same H H' ∧ ∃ vs, H' D = some (.lst vs) ∧ IsMids K h H' vs ((List.range i).map f)) ⟨Hc.Same.new (Same.refl H) nD, [], upd_same, .nil⟩ (fun _ _ _ _ => trivial) ?_ ?_⟩
  · rintro i x H1 H' hi ⟨sa, vs, hD, hm⟩ ⟨rfl, rfl⟩
    have hi' : i < n := by simpa using hi
    refine ⟨?_, ?_⟩
    · show ((σ.set j none).set j _).set j none = σ.set j none
      exact hj _
    · refine (show te ((wipe σ [j]).set j (some (.int ((0 : Int) + (i : Int))))) H' _ from ?_)
      rw [Int.zero_add]
      refine hs i H' _ hi' sa fun v H2 sa2 hv => ?_
      have hm2 := IsMids.up sa2 hm
      have hl : vs.length = i := by
        have z := hm.length
        simpa using z
      refine ⟨vs, sa2 _ _ hD, by rw [hl]; exact Nat.lt_of_le_of_lt (by omega : i ≤ 10) (by decide), ?_, vs ++ [v], upd_same, ?_⟩
      · intro b o z
        rw [upd_ne (ne_of_none z nD)]
        exact sa2 _ _ (sa _ _ z)
      · rw [List.range_succ, List.map_append]
        exact Paired.snoc (IsMids.put (sa2 _ _ hD) hm2) (IsMid.put (sa2 _ _ hD) hv)
  · rintro H' ⟨sa, vs, hD, hm⟩
    rw [Int.toNat_natCast] at hm
    exact k D H' vs sa nD hD hm
theorem half_eq {m n s : Nat} (hm : 1 ≤ m ∧ m ≤ 6) (hn : 1 ≤ n ∧ n ≤ 10) (hs : 1 ≤ s ∧ s ≤ 4) : half0 m n * s / 4 = half m n s := by
  have z : ∀ m : Fin 7, ∀ n : Fin 11, ∀ s : Fin 5, 1 ≤ m.val → 1 ≤ n.val → 1 ≤ s.val → half0 m.val n.val * s.val / 4 = half m.val n.val s.val := by decide
  exact z ⟨m, by omega⟩ ⟨n, by omega⟩ ⟨s, by omega⟩ hm.1 hn.1 hs.1
theorem papp {α : Type} {F : V → α → Prop} : ∀ {xs us : List V} {ys zs : List α}, Paired F xs ys → Paired F us zs → Paired F (xs ++ us) (ys ++ zs)
  | _, _, _, _, .nil, h => h
  | _, _, _, _, .cons a t, h => .cons a (papp t h)
def spRows (K : PySem.W.Frag) : Sp := fun vs H Q _ => ∃ n s : Nat, vs = [.int (n : Int), .int (s : Int)] ∧ (1 ≤ n ∧ n ≤ 10) ∧ (1 ≤ s ∧ s ≤ 4) ∧ ∀ D H' us, Same H H' → H' D = some (.lst us) → IsMids K (half 0 n s) H' us (middles 0 n) → Q (.ref D) H'
theorem rows_fact {n : Nat} (hn : 1 ≤ n ∧ n ≤ 10) : (rowsOf n).foldl max 1 ∈ rowsOf n ∧ (∀ y ∈ rowsOf n, y ≤ (rowsOf n).foldl max 1) ∧ 1 ≤ (rowsOf n).foldl max 1 ∧ 1 ≤ (rowsOf n).length ∧ (rowsOf n).length ≤ 4 ∧ ∀ y ∈ rowsOf n, 1 ≤ y ∧ y ≤ 4 := by
  have z : ∀ n : Fin 11, 1 ≤ n.val → (rowsOf n.val).foldl max 1 ∈ rowsOf n.val ∧ (∀ y ∈ rowsOf n.val, y ≤ (rowsOf n.val).foldl max 1) ∧ 1 ≤ (rowsOf n.val).foldl max 1 ∧ 1 ≤ (rowsOf n.val).length ∧ (rowsOf n.val).length ≤ 4 ∧ ∀ y ∈ rowsOf n.val, 1 ≤ y ∧ y ≤ 4 := by decide
  exact z ⟨n, by omega⟩ hn.1
theorem rows_half {n s : Nat} (hn : 1 ≤ n ∧ n ≤ 10) (hs : 1 ≤ s ∧ s ≤ 4) : min (240 / (rowsOf n).foldl max 1) (288 / (rowsOf n).length) * s / 4 = half 0 n s := by
  have z : ∀ n : Fin 11, ∀ s : Fin 5, 1 ≤ n.val → 1 ≤ s.val → min (240 / (rowsOf n.val).foldl max 1) (288 / (rowsOf n.val).length) * s.val / 4 = half 0 n.val s.val := by decide
  exact z ⟨n, by omega⟩ ⟨s, by omega⟩ hn.1 hs.1
def ROWSI : List (List Int) := [[1], [2], [2, 1], [2, 2], [2, 1, 2], [3, 2, 1], [3, 3, 1], [3, 2, 3], [3, 3, 3], [4, 3, 2, 1]]
theorem rows_at {n : Nat} (hn : 1 ≤ n ∧ n ≤ 10) : ROWSI[n - 1]? = some ((rowsOf n).map fun x : Nat => (x : Int)) := by
  have z : ∀ n : Fin 11, 1 ≤ n.val → ROWSI[n.val - 1]? = some ((rowsOf n.val).map fun x : Nat => (x : Int)) := by decide
  exact z ⟨n, by omega⟩ hn.1
def rowMids (n : Nat) (x : Nat × Nat) : List (Nat × Nat) := (List.range x.1).map fun (j : Nat) => (480 * (2 * j + 1) / (2 * x.1), 576 * (2 * x.2 + 1) / (2 * (rowsOf n).length))
theorem ok_in_rows (T : Txt w K mg) (u_part_of : Cal P w K mg base CX0 1 "part_of" p_part_of spPartOf) (m_Middle : Mak P w K mg base 1 "Middle" p_Middle_init (spI_Middle K)) : Cal P w K mg base CX0 3 "in_rows" p_in_rows (spRows K) := by
  refine T.d_in_rows.cal sc_in_rows (fun vs H Q E h => by obtain ⟨_, _, rfl, _⟩ := h; rfl) ?_
  intro cdv A outer s0 H vs Q E hr h
  have nd := sc_in_rows.nd
  have po := poX (CX := CX0) (P := P) (w := w) (K := K) (mg := mg) (base := base) (N := n_in_rows) (q := "in_rows") (sc := defScope s_in_rows) (f := He.ga K "in_rows") (cdv := cdv) (A := A) (outer := outer) (s := s0) (H := H) (E := E)
  have h_part_of : Room (1) _ := hr.mono (by omega)
  have h_Middle : Room (2) _ := hr.mono (by omega)
  refine ⟨_, (pss_cons (ps_set (i := 2) nd rfl (Or.inr rfl) (pe_ix ix_tup (pe_gr T.g_ROWS) (pe_op op_sub (pv 0) pe_int) (fun _ _ => rfl)))
      (pss_cons (ps_set (i := 3) nd rfl (Or.inr rfl) (pe_op op_fdiv (pe_op op_mul (pe_callB (call_min2 rfl) (by rfl) T.f_min (by decide +kernel) (pa_cons (pe_op op_fdiv pe_int (pe_callB (cr_maxT rfl hr.units) (by rfl) T.f_max (by decide +kernel) (pa_cons (pv 2) pa_nil))) (pa_cons (pe_op op_fdiv pe_int (pe_callB call_len_seq (by rfl) T.f_len PySem.boot_len (pa_cons (pv 2) pa_nil))) pa_nil))) (pv 1)) pe_int))
      (pss_cons (ps_set (i := 4) nd rfl (Or.inl rfl) (pe_lst pa_nil))
      (pss_cons (ps_for po rfl (pi_enumT (by exact T.f_enumerate) rfl (pa_cons (pv 2) pa_nil)) (pg_tup rfl (pgs_cons (pg_name (i := 5) nd rfl (Or.inr rfl)) (pgs_cons (pg_name (i := 6) nd rfl (Or.inr rfl)) pgs_nil)))
      (pss_one (ps_expr (pe_bm PySem.F.plainAttrs_list PySem.F.slot_list_extend PySem.F.type_list_extend mt_extend (pv 4) (by exact (pa_cons (pe_lc (own := [("j", 7)]) (g := gName 7) (tt := tYes) rfl nd (pi_range1 rfl T.f_range (pa_cons (pv 6) pa_nil)) (blkOk_by (own := [("j", 7)]) (N := n_in_rows) (sc := defScope s_in_rows) (by decide +kernel)) (fun _ _ _ _ _ => pg_name (i := 7) nd rfl (Or.inl rfl)) (fun _ _ _ _ _ => pts_nil) (fun _ _ _ _ _ => by exact (pe_makK (K := K) m_Middle (h_Middle) rfl (pa_cons (pe_cal u_part_of (h_part_of) (p0X (E := E0)) (pa_cons (pe_gi T.i_WIDE) (pa_cons (pv 7) (pa_cons (pv 6) pa_nil)))) (pa_cons (pe_cal u_part_of (h_part_of) (p0X (E := E0)) (pa_cons (pe_gi T.i_HIGH) (pa_cons (pv 5) (pa_cons (pe_callB (call_len_K (K := K) rfl) (by rfl) T.f_len PySem.boot_len (pa_cons (pv 2) pa_nil)) pa_nil)))) (pa_cons (pv 3) pa_nil)))))) pa_nil))))))
      (pss_one (ps_ret (pv 4))))))), ?_⟩
  try dsimp only [cxOf]
  clear h_Middle h_part_of po nd
  obtain ⟨n, s, rfl, hn, hs, k⟩ := h
  obtain ⟨as, hal, hta, hrow⟩ := T.t_ROWS H
  obtain ⟨b, hb, hbt⟩ := hrow (n - 1) _ (rows_at hn)
  obtain ⟨f1, f2, f3, f4, f5, f6⟩ := rows_fact hn
  have fh := rows_half hn hs
  have ez : middles 0 n = (rowsOf n).zipIdx.flatMap (rowMids n) := rfl
  rw [ez] at k
  walk_at "rd"
  have en : (n : Int) - 1 = ((n - 1 : Nat) : Int) := by omega
  show rIxT K (V.ref (He.ga K "ROWS")) (V.int ((n : Int) - 1)) H _
  rw [en]
  refine ⟨_, _, _, _, rfl, rfl, hta H, atI_nat (by rw [List.getElem?_map, hb]; rfl), ?_⟩
  generalize hR : rowsOf n = R at *
  generalize hF : R.foldl max 1 = F at *
  have hlen : ((R.map fun x : Nat => (x : Int)).map V.int).length = R.length := by simp
  refine ⟨_, rfl, b, _, rfl, hbt H, by rw [List.length_map]; omega, fun m hm hM => ?_⟩
  have em : m = (F : Int) := by
    obtain ⟨x, hx, rfl⟩ := List.mem_map.mp hm
    have h1 := hM (F : Int) (List.mem_map.mpr ⟨F, f1, rfl⟩)
    have h2 := f2 x hx
    omega
  subst em
  refine ⟨_, _, rfl, rfl, ⟨by omega, by have := (f6 F f1).2; omega⟩, _, rfl, _, _, rfl, .inr (hbt H), ?_⟩
  rw [hlen]
  refine ⟨_, _, rfl, rfl, ⟨by omega, by omega⟩, _, _, rfl, ?_⟩
  have e0 : (240 : Int) / (F : Int) = ((240 / F : Nat) : Int) := by simp
  have e1 : (288 : Int) / (R.length : Int) = ((288 / R.length : Nat) : Int) := by simp
  rw [e0, e1, min_nat]
  refine ⟨_, rfl, _, _, rfl, rfl, .inr ⟨by omega, by omega⟩, _, _, rfl, rfl, ⟨by decide, by decide⟩, ?_⟩
  have eh : ((min (240 / F) (288 / R.length) : Nat) : Int) * (s : Int) / 4 = ((half 0 n s : Nat) : Int) := by
    rw [← fh]
    simp
  dsimp only []
  rw [eh]
  generalize half 0 n s = hf at *
  refine ⟨by show 0 ≤ sizeLine; decide, fun D nD => ?_⟩
  refine ⟨_, rfl, b, _, rfl, hbt _, ?_⟩
  refine for_it walk_enumT (fun i σ H' => Same H H' ∧ (∃ v5 v6, σ = [some (.int (n : Int)), some (.int (s : Int)), some (.ref b), some (.int (hf : Int)), some (.ref D), v5, v6, none]) ∧ ∃ us, H' D = some (.lst us) ∧ us.length ≤ 4 * i ∧ IsMids K hf H' us ((R.zipIdx.take i).flatMap (rowMids n))) ⟨Hc.Same.new (Same.refl H) nD, ⟨none, none, rfl⟩, [], upd_same, Nat.le_refl _, .nil⟩ (fun i σ H' _ _ => hbt H') ?_ ?_
  · rintro i x σ H1 H2 hi ⟨sa, ⟨v5, v6, rfl⟩, us, hD, hul, hm⟩ ⟨T2, x1, y1, rfl, nT, rfl, e1, e2⟩
    rw [hlen] at hi
    cases e1
    have hy : y1 = .int ((R[i] : Nat) : Int) := by
      simp [hi] at e2
      exact e2.symm
    subst hy
    have hRi := f6 R[i] (List.getElem_mem hi)
    refine ⟨T2, _, rfl, SqT.of upd_same, rfl, _, _, rfl, _, _, rfl, rfl, ?_⟩
    have saT : Same H1 (upd H1 T2 (.tup [.int (i : Nat), .int ((R[i] : Nat) : Int)])) := Hc.Same.new (Same.refl H1) nT
    generalize upd H1 T2 (.tup [.int (i : Nat), .int ((R[i] : Nat) : Int)]) = H2 at *
    have hD2 := saT _ _ hD
    refine ⟨_, rfl, .inl ⟨rfl, _, SqL.of hD2⟩, ?_⟩
    dsimp only [tCons]
    refine mids_range (K := K) (n := R[i]) (f := fun j => (480 * (2 * j + 1) / (2 * R[i]), 576 * (2 * i + 1) / (2 * R.length))) (h := hf) (j := 7) (fun Q' q => ⟨_, rfl, q⟩) (by omega) (fun v => rfl) (fun jj H3 Q' hj sa3 q => ?_) fun D2 H3 us2 sa3 nD2 hD3 hm2 => ?_
    · refine ⟨_, rfl, _, rfl, ⟨_, ⟨_, _, _, rfl, (by omega), rfl⟩, _, rfl, _, rfl, _, _, rfl, .inr (hbt _), ?_⟩⟩
      rw [hlen]
      refine ⟨_, ⟨_, _, _, rfl, (by omega), rfl⟩, _, rfl, ?_⟩
      refine mk_Middle fun x dx H' nx sa4 hx => q _ _ sa4 ⟨x, dx, rfl, ?_⟩
      rw [hx]
      have q1 : (480 : Int) * (2 * (jj : Int) + 1) / (2 * (R[i] : Int)) = ((480 * (2 * jj + 1) / (2 * R[i]) : Nat) : Int) := by simp
      have q2 : (576 : Int) * (2 * (i : Int) + 1) / (2 * (R.length : Int)) = ((576 * (2 * i + 1) / (2 * R.length) : Nat) : Int) := by simp
      rw [q1, q2]
      rfl
    · have hD4 := sa3 _ _ hD2
      have hl2 : us2.length = R[i] := by
        have z := hm2.length
        simpa using z
      refine ⟨D, D2, us, us2, rfl, rfl, hD4, hD3, Nat.le_trans (by omega : us.length + us2.length ≤ 20) (by decide), ?_⟩
      refine ⟨?_, ⟨_, _, rfl⟩, us ++ us2, upd_same, by rw [List.length_append]; omega, ?_⟩
      · intro b' o z
        rw [upd_ne (ne_of_none z nD)]
        exact sa3 _ _ (saT _ _ (sa _ _ z))
      · have hz : R.zipIdx[i]? = some (R[i], i) := by simp [hi]
        rw [take_more hz, List.flatMap_append]
        have hm3 := IsMids.put (o := .lst (us ++ us2)) hD4 (IsMids.up sa3 (IsMids.up saT hm))
        have hm4 := IsMids.put (o := .lst (us ++ us2)) hD4 hm2
        have er : rowMids n (R[i], i) = (List.range R[i]).map fun j => (480 * (2 * j + 1) / (2 * R[i]), 576 * (2 * i + 1) / (2 * R.length)) := by
          unfold rowMids
          rw [hR]
        rw [List.flatMap_cons, List.flatMap_nil, List.append_nil, er]
        exact papp hm3 hm4
  · rintro σ H1 ⟨sa, ⟨v5, v6, rfl⟩, us, hD, hul, hm⟩
    rw [hlen, show R.length = R.zipIdx.length by simp, List.take_length] at hm
    exact ⟨_, rfl, k D H1 us sa hD hm⟩
def spMids (K : PySem.W.Frag) : Sp := fun vs H Q _ => ∃ n m s : Nat, vs = [.int (n : Int), .int (m : Int), .int (s : Int)] ∧ (1 ≤ n ∧ n ≤ 10) ∧ m ≤ 6 ∧ (1 ≤ s ∧ s ≤ 4) ∧ ∀ D H' us, Same H H' → H' D = some (.lst us) → IsMids K (half m n s) H' us (middles m n) → Q (.ref D) H'
theorem ok_middles_of (T : Txt w K mg) (u_in_rows : Cal P w K mg base CX0 3 "in_rows" p_in_rows (spRows K)) (u_half_of : Cal P w K mg base CX0 1 "half_of" p_half_of spHalf) (u_middle_of : Cal P w K mg base CX0 3 "middle_of" p_middle_of (spMid K)) : Cal P w K mg base CX0 4 "middles_of" p_middles_of (spMids K) := by
  refine T.d_middles_of.cal sc_middles_of (fun vs H Q E h => by obtain ⟨_, _, _, rfl, _⟩ := h; rfl) ?_
  intro cdv A outer s0 H vs Q E hr h
  have nd := sc_middles_of.nd
  have po := poX (CX := CX0) (P := P) (w := w) (K := K) (mg := mg) (base := base) (N := n_middles_of) (q := "middles_of") (sc := defScope s_middles_of) (f := He.ga K "middles_of") (cdv := cdv) (A := A) (outer := outer) (s := s0) (H := H) (E := E)
  have h_in_rows : Room (3) _ := hr.mono (by omega)
  have h_half_of : Room (1) _ := hr.mono (by omega)
  have h_middle_of : Room (3) _ := hr.mono (by omega)
  refine ⟨_, (pss_cons (ps_if (pt_cmpR op_eq (pv 1) pe_int (nomark _)) (pss_one (ps_ret (pe_cal u_in_rows (h_in_rows) (p0X (E := E0)) (pa_cons (pv 0) (pa_cons (pv 2) pa_nil))))) pss_nil)
      (pss_cons (ps_set (i := 3) nd rfl (Or.inr rfl) (pe_op op_fdiv (pe_op op_mul (pe_cal u_half_of (h_half_of) (p0X (E := E0)) (pa_cons (pv 1) (pa_cons (pv 0) pa_nil))) (pv 2)) pe_int))
      (pss_one (ps_ret (pe_lc (own := [("k", 4)]) (g := gName 4) (tt := tYes) rfl nd (pi_range1 rfl T.f_range (pa_cons (pv 0) pa_nil)) (blkOk_by (own := [("k", 4)]) (N := n_middles_of) (sc := defScope s_middles_of) (by decide +kernel)) (fun _ _ _ _ _ => pg_name (i := 4) nd rfl (Or.inl rfl)) (fun _ _ _ _ _ => pts_nil) (fun _ _ _ _ _ => (pe_cal u_middle_of (h_middle_of) (p0X (E := E0)) (pa_cons (pv 1) (pa_cons (pv 4) (pa_cons (pv 0) (pa_cons (pv 3) pa_nil))))))))))), ?_⟩
  try dsimp only [cxOf]
  clear h_middle_of h_half_of h_in_rows po nd
  obtain ⟨n, m, s, rfl, hn, hm, hs, k⟩ := h
  refine a_when (by walk_at "vr") (fun c => ?_) fun c => ?_
  · have c' := of_decide_eq_true c
    have em : m = 0 := by omega
    subst em
    walk_at "rd"
    exact ⟨n, s, rfl, hn, hs, k⟩
  have c' := of_decide_eq_false c
  walk_at "rd"
  refine ⟨m, n, rfl, by omega, hn, fun H1 sa => ?_⟩
  refine ⟨_, rfl, _, _, rfl, rfl, .inr ⟨by omega, by omega⟩, _, _, rfl, rfl, ⟨by decide, by decide⟩, ?_⟩
  dsimp only [gName, tRet]
  have eh : ((half0 m n : Nat) : Int) * (s : Int) / 4 = ((half m n s : Nat) : Int) := by
    rw [← half_eq (by omega : 1 ≤ m ∧ m ≤ 6) hn hs]
    simp
  refine mids_range (n := n) (f := midF m n) (h := half m n s) (j := 4) (fun Q' q => ⟨_, rfl, q⟩) hn.2 (fun v => rfl) (fun i H2 Q' hi sa2 q => ?_) fun D H2 us sa2 nD hD hm2 => k D H2 us (fun b o z => sa2 _ _ (sa _ _ z)) hD (by rw [middles_mid (by omega)]; exact hm2)
  refine ⟨_, rfl, _, rfl, _, rfl, _, rfl, ?_⟩
  refine ⟨m, i, n, half m n s, ?_, by omega, hi, hn.2, fun v H3 sa3 hv => q v H3 sa3 hv⟩
  show [V.int (m : Int), V.int (i : Int), V.int (n : Int), V.int (((half0 m n : Nat) : Int) * (s : Int) / 4)] = _
  rw [eh]
theorem pget {α : Type} {F : V → α → Prop} : ∀ {xs : List V} {ys : List α} {i : Nat} {v : V}, Paired F xs ys → xs[i]? = some v → ∃ m, ys[i]? = some m ∧ F v m
  | _, _, 0, v, .cons h _, e => ⟨_, rfl, by cases e; exact h⟩
  | _, _, i + 1, v, .cons _ t, e => by
    obtain ⟨m, h1, h2⟩ := pget (i := i) t (by simpa using e)
    exact ⟨m, by simpa using h1, h2⟩
theorem half_pos {m n s : Nat} (hm : m ≤ 6) (hn : 1 ≤ n ∧ n ≤ 10) (hs : 1 ≤ s ∧ s ≤ 4) : 6 ≤ half m n s ∧ half m n s ≤ 288 := by
  have z : ∀ m : Fin 7, ∀ n : Fin 11, ∀ s : Fin 5, 1 ≤ n.val → 1 ≤ s.val → 6 ≤ half m.val n.val s.val ∧ half m.val n.val s.val ≤ 288 := by decide
  exact z ⟨m, by omega⟩ ⟨n, by omega⟩ ⟨s, by omega⟩ hn.1 hs.1
def spGroup (K : PySem.W.Frag) : Sp := fun vs H Q _ => ∃ c n m s p r : Nat, vs = [.int (c : Int), .int (n : Int), .int (m : Int), .int (s : Int), .int (p : Int), .int (r : Int)] ∧ c ≤ 15 ∧ (1 ≤ n ∧ n ≤ 10) ∧ m ≤ 6 ∧ (1 ≤ s ∧ s ≤ 4) ∧ ∀ H', Same H H' → Q (.bl (groupHas c n m s p r)) H'
theorem ok_has_group (T : Txt w K mg) (u_middles_of : Cal P w K mg base CX0 4 "middles_of" p_middles_of (spMids K)) (u_has_charge : Cal P w K mg base CX0 3 "has_charge" p_has_charge spHas) : Cal P w K mg base CX0 5 "has_group" p_has_group (spGroup K) := by
  refine T.d_has_group.cal sc_has_group (fun vs H Q E h => by obtain ⟨_, _, _, _, _, _, rfl, _⟩ := h; rfl) ?_
  intro cdv A outer s0 H vs Q E hr h
  have nd := sc_has_group.nd
  have po := poX (CX := CX0) (P := P) (w := w) (K := K) (mg := mg) (base := base) (N := n_has_group) (q := "has_group") (sc := defScope s_has_group) (f := He.ga K "has_group") (cdv := cdv) (A := A) (outer := outer) (s := s0) (H := H) (E := E)
  have h_middles_of : Room (4) _ := hr.mono (by omega)
  have h_has_charge : Room (3) _ := hr.mono (by omega)
  refine ⟨_, (pss_cons (ps_for po rfl (pi_list (pe_cal u_middles_of (h_middles_of) (p0X (E := E0)) (pa_cons (pv 1) (pa_cons (pv 2) (pa_cons (pv 3) pa_nil))))) (pg_name (i := 6) nd rfl (Or.inl rfl))
      (pss_cons (ps_set (i := 7) nd rfl (Or.inl rfl) (pe_op op_fdiv (pe_op op_mul (pe_op op_sub (pv 4) (pe_fld (pv 6) rfl)) pe_int) (pe_fld (pv 6) rfl)))
      (pss_cons (ps_set (i := 8) nd rfl (Or.inl rfl) (pe_op op_fdiv (pe_op op_mul (pe_op op_sub (pv 5) (pe_fld (pv 6) rfl)) pe_int) (pe_fld (pv 6) rfl)))
      (pss_one (ps_if (pt_val (pe_cal u_has_charge (h_has_charge) (p0X (E := E0)) (pa_cons (pv 0) (pa_cons (pv 7) (pa_cons (pv 8) pa_nil))))) (pss_one (ps_ret pe_bl)) pss_nil)))))
      (pss_one (ps_ret pe_bl))), ?_⟩
  try dsimp only [cxOf]
  clear h_has_charge h_middles_of po nd
  obtain ⟨c, n, m, s, p, r, rfl, hc, hn, hm, hs, k⟩ := h
  have hh := half_pos hm hn hs
  refine ⟨_, rfl, _, rfl, _, rfl, n, m, s, rfl, hn, hm, hs, fun l H1 us sa hl hmid => ?_⟩
  refine ⟨l, rfl, ⟨_, SqL.of hl⟩, ?_⟩
  have hit : ∀ b, (middles m n).any (fun (x : Nat × Nat) => chargeHas c (((p : Int) - (x.1 : Int)) * 48 / (half m n s : Nat)) (((r : Int) - (x.2 : Int)) * 48 / (half m n s : Nat))) = b → groupHas c n m s p r = b := fun b e => e
  generalize half m n s = hf at *
  generalize hM : middles m n = M at *
  refine for_it walk_list (fun i σ H' => Same H1 H' ∧ (∃ v6 v7 v8, σ = [some (.int (c : Int)), some (.int (n : Int)), some (.int (m : Int)), some (.int (s : Int)), some (.int (p : Int)), some (.int (r : Int)), v6, v7, v8]) ∧ (M.take i).any (fun (x : Nat × Nat) => chargeHas c (((p : Int) - (x.1 : Int)) * 48 / (hf : Nat)) (((r : Int) - (x.2 : Int)) * 48 / (hf : Nat))) = false) ⟨Same.refl H1, ⟨none, none, none, rfl⟩, by simp⟩ (fun i σ H' _ p => SqL.of (p.1 _ _ hl)) ?_ ?_
  · rintro i x σ H2 H3 hi ⟨sa2, ⟨v6, v7, v8, rfl⟩, hno⟩ ⟨rfl, hx⟩
    obtain ⟨mid, hmi, x2, dx, rfl, hx2⟩ := pget (IsMids.up sa2 hmid) hx
    walk_at "rd"
    refine ⟨⟨by omega, by omega⟩, ?_⟩
    walk_at "rd"
    refine ⟨⟨by omega, by omega⟩, ?_⟩
    refine (a_B (v_call (va_cons (v_var (by rfl)) (va_cons (v_var (by rfl)) (va_cons (v_var (by rfl)) va_nil))) ⟨_, _, _, rfl, (by omega), rfl⟩) : An _ _ _ _) _ ?_
    have et : M.take (i + 1) = M.take i ++ [mid] := take_more hmi
    refine iteB (fun c1 => ?_) fun c1 => ?_
    · rw [Int.toNat_natCast] at c1
      have e : groupHas c n m s p r = true := hit true (List.any_eq_true.mpr ⟨mid, List.mem_of_getElem? hmi, c1⟩)
      rw [e] at k
      exact k _ (fun b o z => sa2 _ _ (sa _ _ z))
    · rw [Int.toNat_natCast] at c1
      refine ⟨sa2, ⟨_, _, _, rfl⟩, ?_⟩
      rw [et, List.any_append, hno, Bool.false_or, List.any_cons, List.any_nil, Bool.or_false]
      exact c1
  · rintro σ H2 ⟨sa2, ⟨v6, v7, v8, rfl⟩, hno⟩
    have hl2 : us.length = M.length := by
      have z := hmid.length
      exact z
    rw [hl2, List.take_length] at hno
    have e : groupHas c n m s p r = false := hit false hno
    rw [e] at k
    exact k _ (fun b o z => sa2 _ _ (sa _ _ z))
end
end Hc

namespace Hc
open PySem PySem.Spec PyProof.Rows L2
open Sh ShMarsh
set_option hygiene false
local macro_rules | `(tactic| walk_at "hp") => `(tactic| first | assumption | exact Src.ob (by assumption) | exact Rdr.ob (by assumption) | exact upd_same)
local macro_rules | `(tactic| walk_at "sq") => `(tactic| first | assumption | exact Src.sq (by assumption) | exact Rdr.sq (by assumption) | exact SqL.of (by assumption) | exact SqL.of upd_same | exact SqT.of (by assumption) | exact SqT.of upd_same)
local macro_rules | `(tactic| walk_at "cl") => `(tactic| with_reducible first | exact T.c_Bytes | exact T.c_Coat | exact T.c_Arms | exact T.c_Layer | exact T.c_Token | exact T.c_Reader | exact T.c_Words)
local macro_rules | `(tactic| walk_at "na") => `(tactic| with_reducible first | exact T.n_Bytes_some | exact T.n_Bytes_at | exact T.n_Coat_kind | exact T.n_Coat_arms | exact T.n_Coat_canton | exact T.n_Coat_marks | exact T.n_Coat_coats | exact T.n_Arms_field | exact T.n_Arms_layers | exact T.n_Layer_kind | exact T.n_Layer_numbers | exact T.n_Layer_fill | exact T.n_Token_kind | exact T.n_Token_value | exact T.n_Token_place | exact T.n_Token_behind | exact T.n_Reader_some | exact T.n_Reader_at | exact T.n_Reader_end | exact T.n_Words_some | exact T.n_Words_at)
local macro_rules | `(tactic| walk_at "ai") => `(tactic| first | assumption | exact atI_nat (by assumption) | rfl)
local macro_rules | `(tactic| walk_at "rd1") => `(tactic| first
  | refine ⟨_, rfl, ?_⟩
  | refine ⟨rfl, ?_⟩
  | refine ⟨_, _, rfl, rfl, ?_⟩
  | refine ⟨_, _, _, _, _, rfl, (by walk_at "hp"), (by walk_at "cl"), (by walk_at "na"), (by rfl), ?_⟩
  | refine ⟨_, _, _, _, rfl, (by walk_at "hp"), (by walk_at "cl"), (by walk_at "na"), Nat.le_of_ble_eq_true rfl, ?_⟩
  | refine ⟨_, _, _, _, rfl, rfl, (by walk_at "sq"), (by walk_at "ai"), ?_⟩
  | refine ⟨_, _, rfl, (by first | exact Or.inl (by walk_at "sq") | exact Or.inr (by walk_at "sq")), ?_⟩
  | refine ⟨(by walk_at "ar"), ?_⟩)
local macro_rules | `(tactic| walk_at "ar") => `(tactic| first | exact (show CDiv _ _ from ⟨by decide, by decide⟩) | exact (show (0 : Int) < _ from by decide) | exact (show CMul _ _ from .inl ⟨by omega, by omega⟩) | exact (show CMul _ _ from .inr ⟨by omega, by omega⟩))
local macro_rules | `(tactic| walk_at "rd") => `(tactic| repeat walk_at "rd1")
local macro_rules | `(tactic| walk_at "fa") => `(tactic| first | exact ⟨_, rfl, (by omega), rfl⟩ | exact ⟨_, _, rfl, (by omega), rfl⟩ | exact ⟨_, _, _, rfl, (by omega), rfl⟩ | exact ⟨_, _, _, _, rfl, (by omega), rfl⟩ | exact ⟨_, _, _, _, _, rfl, (by omega), rfl⟩)
local macro_rules | `(tactic| walk_at "vr") => `(tactic| first
  | exact v_var (by rfl)
  | exact v_c
  | (apply v_i0 <;> walk_at "vr")
  | (apply v_i <;> first | walk_at "ar" | walk_at "vr")
  | (apply v_neg <;> walk_at "vr")
  | (apply v_eq <;> walk_at "vr")
  | (apply v_eqB <;> walk_at "vr")
  | (apply v_ne <;> walk_at "vr")
  | (apply v_neB <;> walk_at "vr")
  | (apply v_chain (g := fun _ _ => _) (g' := fun _ _ => _) <;> walk_at "vr")
  | (apply v_and <;> walk_at "vr")
  | (apply v_or <;> walk_at "vr")
  | (apply v_not <;> walk_at "vr")
  | (apply v_ifI <;> walk_at "vr")
  | (apply v_ifB <;> walk_at "vr")
  | (apply v_call <;> first | walk_at "fa" | walk_at "vr")
  | (apply v_abs <;> walk_at "vr")
  | (apply v_min <;> walk_at "vr")
  | exact va_nil
  | (apply va_cons <;> walk_at "vr")
  | (apply a_test <;> walk_at "vr")
  | (apply a_B <;> walk_at "vr")
  | (apply a_and <;> walk_at "vr")
  | (apply a_or <;> walk_at "vr")
  | (apply a_not <;> walk_at "vr"))
local macro_rules | `(tactic| walk_at "rs") => `(tactic| first
  | (apply r_ret; walk_at "vr")
  | (apply r_set; walk_at "vr"; walk_at "rs")
  | (apply r_ifI; walk_at "vr"; intro _; walk_at "rs"; intro _; walk_at "rs")
  | (apply r_ifB; walk_at "vr"; intro _; walk_at "rs"; intro _; walk_at "rs"))

section
variable {P : Program} {w : World} {K : PySem.W.Frag} {mg : Str → Option Value} {base : Heap}
def firstOf : Field → Nat → Nat → Bool
  | .plain _, _, _ => true
  | .parted d l _ _, p, r => firstAt d l p r
  | .varied v n l _ _, p, r => decide (pieceAt v (n : Int) l p r % 2 = 0)
def spFirst : Sp := fun vs H Q _ => ∃ (v : V) (f : Field) (p r : Nat), vs = [v, .int (p : Int), .int (r : Int)] ∧ IsField H v f ∧ WfField f ∧ f.two.isSome = true ∧ p < 480 ∧ r < 576 ∧ Q (.bl (firstOf f p r)) H
theorem rank_lt (d : Int) : rank d < 3 := by
  unfold rank
  split
  · omega
  · split <;> omega
theorem ok_has_first (T : Txt w K mg) (u_is_parted : Cal P w K mg base CX0 6 "is_parted" p_is_parted (spParted 3)) (u_piece_number : Cal P w K mg base CX0 4 "piece_number" p_piece_number spPiece) : Cal P w K mg base CX0 7 "has_first" p_has_first spFirst := by
  refine T.d_has_first.cal sc_has_first (fun vs H Q E h => by obtain ⟨_, _, _, _, rfl, _⟩ := h; rfl) ?_
  intro cdv A outer s0 H vs Q E hr h
  have nd := sc_has_first.nd
  have po := poX (CX := CX0) (P := P) (w := w) (K := K) (mg := mg) (base := base) (N := n_has_first) (q := "has_first") (sc := defScope s_has_first) (f := He.ga K "has_first") (cdv := cdv) (A := A) (outer := outer) (s := s0) (H := H) (E := E)
  have h_is_parted : Room (6) _ := hr.mono (by omega)
  have h_piece_number : Room (4) _ := hr.mono (by omega)
  refine ⟨_, (pss_cons (ps_if (pt_cmpR op_eq (pe_ix ix_tup (pv 0) pe_int (fun _ _ => rfl)) (pe_gi T.i_PARTED) (nomark _)) (pss_one (ps_ret (pe_cal u_is_parted (h_is_parted) (p0X (E := E0)) (pa_cons (pe_ix ix_tup (pv 0) pe_int (fun _ _ => rfl)) (pa_cons (pe_ix ix_tup (pv 0) pe_int (fun _ _ => rfl)) (pa_cons (pv 1) (pa_cons (pv 2) pa_nil))))))) pss_nil)
      (pss_one (ps_ret (pe_cmpR op_eq (pe_op op_mod (pe_cal u_piece_number (h_piece_number) (p0X (E := E0)) (pa_cons (pe_ix ix_tup (pv 0) pe_int (fun _ _ => rfl)) (pa_cons (pe_ix ix_tup (pv 0) pe_int (fun _ _ => rfl)) (pa_cons (pe_ix ix_tup (pv 0) pe_int (fun _ _ => rfl)) (pa_cons (pv 1) (pa_cons (pv 2) pa_nil)))))) pe_int) pe_int (nomark _))))), ?_⟩
  try dsimp only [cxOf]
  clear h_piece_number h_is_parted po nd
  obtain ⟨v, f, p, r, rfl, ⟨a, rfl, ha⟩, wf, h2, hp, hr, k⟩ := h
  cases f with
  | plain t => cases h2
  | parted d l x y =>
    obtain ⟨w1, w2, w3, w4, w5⟩ := wf
    walk_at "rd"
    refine ⟨_, ⟨(d : Int), (l : Int), (p : Int), (r : Int), rfl, ⟨by omega, by omega, rank_lt _⟩, rfl⟩, ?_⟩
    rw [Int.toNat_natCast, Int.toNat_natCast]
    exact k
  | varied v n l x y =>
    obtain ⟨w1, w2, w3, w4, w5⟩ := wf
    walk_at "rd"
    · refine ⟨_, ⟨(v : Int), (n : Int), (l : Int), (p : Int), (r : Int), rfl, (by omega), rfl⟩, ?_⟩
      rw [Int.toNat_natCast, Int.toNat_natCast]
      walk_at "rd"
      have e : decide (V.int (pieceAt v (n : Int) l p r % 2) = V.int 0) = firstOf (.varied v n l x y) p r := by
        show decide (V.int (pieceAt v (n : Int) l p r % 2) = V.int 0) = decide (pieceAt v (n : Int) l p r % 2 = 0)
        by_cases z : pieceAt v (n : Int) l p r % 2 = 0
        · rw [decide_eq_true z, decide_eq_true (by rw [z])]
        · rw [decide_eq_false z, decide_eq_false (fun q => z (by injection q))]
      rw [← e] at k
      exact k
def spTinct : Sp := fun vs H Q _ => ∃ (v : V) (f : Field) (p r : Nat), vs = [v, .int (p : Int), .int (r : Int)] ∧ IsField H v f ∧ WfField f ∧ p < 480 ∧ r < 576 ∧ Q (.int (f.at_ p r : Nat)) H
theorem ok_tincture_of (T : Txt w K mg) (u_has_first : Cal P w K mg base CX0 7 "has_first" p_has_first spFirst) : Cal P w K mg base CX0 8 "tincture_of" p_tincture_of spTinct := by
  refine T.d_tincture_of.cal sc_tincture_of (fun vs H Q E h => by obtain ⟨_, _, _, _, rfl, _⟩ := h; rfl) ?_
  intro cdv A outer s0 H vs Q E hr h
  have nd := sc_tincture_of.nd
  have po := poX (CX := CX0) (P := P) (w := w) (K := K) (mg := mg) (base := base) (N := n_tincture_of) (q := "tincture_of") (sc := defScope s_tincture_of) (f := He.ga K "tincture_of") (cdv := cdv) (A := A) (outer := outer) (s := s0) (H := H) (E := E)
  have h_has_first : Room (7) _ := hr.mono (by omega)
  refine ⟨_, (pss_cons (ps_if (pt_cmpR op_eq (pe_ix ix_tup (pv 0) pe_int (fun _ _ => rfl)) (pe_gi T.i_PLAIN) (nomark _)) (pss_one (ps_ret (pe_ix ix_tup (pv 0) pe_int (fun _ _ => rfl)))) pss_nil)
      (pss_one (ps_ret (pe_ifExp (pt_val (pe_cal u_has_first (h_has_first) (p0X (E := E0)) (pa_cons (pv 0) (pa_cons (pv 1) (pa_cons (pv 2) pa_nil))))) (pe_ix ix_tup (pv 0) (pe_un un_neg pe_int) (fun _ _ => rfl)) (pe_ix ix_tup (pv 0) (pe_un un_neg pe_int) (fun _ _ => rfl)))))), ?_⟩
  try dsimp only [cxOf]
  clear h_has_first po nd
  obtain ⟨v, f, p, r, rfl, is, wf, hp, hr, k⟩ := h
  obtain ⟨a, rfl, ha⟩ := id is
  cases f with
  | plain t =>
    walk_at "rd"
    exact k
  | parted d l x y =>
    walk_at "rd"
    refine ⟨_, _, p, r, rfl, is, wf, rfl, hp, hr, ?_⟩
    refine ⟨_, rfl, iteB (fun c2 => ?_) fun c2 => ?_⟩
    · walk_at "rd"
      have e : Field.at_ (.parted d l x y) p r = x := if_pos c2
      rw [e] at k
      exact k
    · walk_at "rd"
      have e : Field.at_ (.parted d l x y) p r = y := if_neg (show ¬ firstOf (.parted d l x y) p r = true by rw [c2]; decide)
      rw [e] at k
      exact k
  | varied v n l x y =>
    walk_at "rd"
    refine ⟨_, _, p, r, rfl, is, wf, rfl, hp, hr, ?_⟩
    refine ⟨_, rfl, iteB (fun c2 => ?_) fun c2 => ?_⟩
    · walk_at "rd"
      have e : Field.at_ (.varied v n l x y) p r = x := if_pos (of_decide_eq_true c2)
      rw [e] at k
      exact k
    · walk_at "rd"
      have e : Field.at_ (.varied v n l x y) p r = y := if_neg (of_decide_eq_false c2)
      rw [e] at k
      exact k
def spLayHas (K : PySem.W.Frag) : Sp := fun vs H Q _ => ∃ (v : V) (l : Layer) (below : Field) (p r : Nat), vs = [v, .int (p : Int), .int (r : Int)] ∧ IsLayer K H v l ∧ WfLayer below l ∧ p < 480 ∧ r < 576 ∧ ∀ H', Same H H' → Q (.bl (l.has p r)) H'
theorem ok_has_layer (T : Txt w K mg) (u_has_ordinary : Cal P w K mg base CX0 5 "has_ordinary" p_has_ordinary spOrd) (u_has_group : Cal P w K mg base CX0 5 "has_group" p_has_group (spGroup K)) : Cal P w K mg base CX0 6 "has_layer" p_has_layer (spLayHas K) := by
  refine T.d_has_layer.cal sc_has_layer (fun vs H Q E h => by obtain ⟨_, _, _, _, _, rfl, _⟩ := h; rfl) ?_
  intro cdv A outer s0 H vs Q E hr h
  have nd := sc_has_layer.nd
  have po := poX (CX := CX0) (P := P) (w := w) (K := K) (mg := mg) (base := base) (N := n_has_layer) (q := "has_layer") (sc := defScope s_has_layer) (f := He.ga K "has_layer") (cdv := cdv) (A := A) (outer := outer) (s := s0) (H := H) (E := E)
  have h_has_ordinary : Room (5) _ := hr.mono (by omega)
  have h_has_group : Room (5) _ := hr.mono (by omega)
  refine ⟨_, (pss_cons (ps_if (pt_cmpR op_eq (pe_fld (pv 0) rfl) (pe_gi T.i_ORDINARY) (nomark _)) (pss_one (ps_ret (pe_cal u_has_ordinary (h_has_ordinary) (p0X (E := E0)) (pa_cons (pe_ix ix_list (pe_fld (pv 0) rfl) pe_int (fun _ _ => rfl)) (pa_cons (pe_ix ix_list (pe_fld (pv 0) rfl) pe_int (fun _ _ => rfl)) (pa_cons (pv 1) (pa_cons (pv 2) pa_nil))))))) pss_nil)
      (pss_cons (ps_asg (pe_fld (pv 0) rfl) (pg_unl rfl (pgs_cons (pg_name (i := 3) nd rfl (Or.inl rfl)) (pgs_cons (pg_name (i := 4) nd rfl (Or.inl rfl)) (pgs_cons (pg_name (i := 5) nd rfl (Or.inl rfl)) (pgs_cons (pg_name (i := 6) nd rfl (Or.inl rfl)) pgs_nil))))))
      (pss_one (ps_ret (pe_cal u_has_group (h_has_group) (p0X (E := E0)) (pa_cons (pv 3) (pa_cons (pv 4) (pa_cons (pv 5) (pa_cons (pv 6) (pa_cons (pv 1) (pa_cons (pv 2) pa_nil))))))))))), ?_⟩
  try dsimp only [cxOf]
  clear h_has_group h_has_ordinary po nd
  obtain ⟨v, l, below, p, r, rfl, ⟨a, dx, n, fv, rfl, ha, hn, hf⟩, wf, hp, hr, k⟩ := h
  cases l with
  | ord o l f =>
    obtain ⟨w1, w2, w3⟩ := wf
    walk_at "rd"
    refine ⟨_, ⟨(o : Int), (l : Int), (p : Int), (r : Int), rfl, (by omega), rfl⟩, ?_⟩
    rw [Int.toNat_natCast, Int.toNat_natCast]
    exact k H (Same.refl H)
  | group c m' n' s f =>
    obtain ⟨w1, w2, w3, w4, w5⟩ := wf
    walk_at "rd"
    refine ⟨_, _, rfl, SqL.of hn, rfl, _, _, rfl, _, _, rfl, _, _, rfl, _, _, rfl, rfl, ?_⟩
    walk_at "rd"
    exact ⟨c, m', n', s, p, r, rfl, w1, w2, w3, w4, k⟩
def spArmsAt (K : PySem.W.Frag) : Sp := fun vs H Q _ => ∃ (v : V) (a : Arms) (p r : Nat), vs = [v, .int (p : Int), .int (r : Int)] ∧ IsArms K H v a ∧ WfArms a ∧ p < 480 ∧ r < 576 ∧ ∀ H', Same H H' → Q (.int (a.at_ p r : Nat)) H'
theorem find_at {α : Type} {l : List α} {f : α → Bool} {i : Nat} {x : α} (h : l[i]? = some x) (hn : (l.take i).find? f = none) (hx : f x = true) : l.find? f = some x := by
  have hi : i < l.length := (List.getElem?_eq_some_iff.mp h).1
  have e : l = l.take i ++ l.drop i := (List.take_append_drop i l).symm
  have e2 : l.drop i = x :: l.drop (i + 1) := by
    rw [List.drop_eq_getElem_cons hi, (List.getElem?_eq_some_iff.mp h).2]
  rw [e, List.find?_append, hn, e2, List.find?_cons, hx]
  rfl
theorem counter_at {b : Field} {p r : Nat} (wf : WfField b) (h2 : b.two.isSome = true) : ∃ x y, b.two = some (x, y) ∧ Fill.at_ .counter b p r = if firstOf b p r = true then y else x := by
  cases b with
  | plain t => cases h2
  | parted d l x y =>
    refine ⟨x, y, rfl, ?_⟩
    show (if (if firstAt d l p r = true then x else y) = x then y else x) = if firstAt d l p r = true then y else x
    by_cases z : firstAt d l p r = true
    · rw [if_pos z, if_pos z, if_pos rfl]
    · rw [if_neg z, if_neg z, if_neg (fun q => wf.2.2.2.2 q.symm)]
  | varied v n l x y =>
    refine ⟨x, y, rfl, ?_⟩
    show (if (if pieceAt v (n : Int) l p r % 2 = 0 then x else y) = x then y else x) = if decide (pieceAt v (n : Int) l p r % 2 = 0) = true then y else x
    by_cases z : pieceAt v (n : Int) l p r % 2 = 0
    · rw [if_pos z, decide_eq_true z, if_pos rfl]
      rfl
    · rw [if_neg z, decide_eq_false z, if_neg (fun q => wf.2.2.2.2.2 q.symm)]
      rfl
theorem field_ends {b : Field} {x y : Tinct} (h : b.two = some (x, y)) : ∃ ws, fieldV b = ws ++ [iv x, iv y] := by
  cases b with
  | plain t => cases h
  | parted d l x' y' => cases h; exact ⟨[iv 1, iv d, iv l], rfl⟩
  | varied v n l x' y' => cases h; exact ⟨[iv 2, iv v, iv n, iv l], rfl⟩
theorem atI_end1 {b : Field} {x y : Tinct} (h : b.two = some (x, y)) : atI (fieldV b) (-1) = some (iv y) := by
  cases b with
  | plain t => cases h
  | parted d l x' y' => cases h; rfl
  | varied v n l x' y' => cases h; rfl
theorem atI_end2 {b : Field} {x y : Tinct} (h : b.two = some (x, y)) : atI (fieldV b) (-2) = some (iv x) := by
  cases b with
  | plain t => cases h
  | parted d l x' y' => cases h; rfl
  | varied v n l x' y' => cases h; rfl
theorem ok_arms_at (T : Txt w K mg) (u_has_layer : Cal P w K mg base CX0 6 "has_layer" p_has_layer (spLayHas K)) (u_tincture_of : Cal P w K mg base CX0 8 "tincture_of" p_tincture_of spTinct) (u_has_first : Cal P w K mg base CX0 7 "has_first" p_has_first spFirst) : Cal P w K mg base CX0 9 "arms_at" p_arms_at (spArmsAt K) := by
  refine T.d_arms_at.cal sc_arms_at (fun vs H Q E h => by obtain ⟨_, _, _, _, rfl, _⟩ := h; rfl) ?_
  intro cdv A outer s0 H vs Q E hr h
  have nd := sc_arms_at.nd
  have po := poX (CX := CX0) (P := P) (w := w) (K := K) (mg := mg) (base := base) (N := n_arms_at) (q := "arms_at") (sc := defScope s_arms_at) (f := He.ga K "arms_at") (cdv := cdv) (A := A) (outer := outer) (s := s0) (H := H) (E := E)
  have h_has_layer : Room (6) _ := hr.mono (by omega)
  have h_tincture_of : Room (8) _ := hr.mono (by omega)
  have h_has_first : Room (7) _ := hr.mono (by omega)
  refine ⟨_, (pss_cons (ps_for po rfl (pi_reversed (by rfl) T.f_reversed (pa_cons (pe_fld (pv 0) rfl) pa_nil)) (pg_name (i := 3) nd rfl (Or.inl rfl))
      (pss_one (ps_if (pt_val (pe_cal u_has_layer (h_has_layer) (p0X (E := E0)) (pa_cons (pv 3) (pa_cons (pv 1) (pa_cons (pv 2) pa_nil))))) (pss_cons (ps_if (pt_cmp (pc_notN (pe_fld (pv 3) rfl))) (pss_one (ps_ret (pe_cal u_tincture_of (h_tincture_of) (p0X (E := E0)) (pa_cons (pe_fld (pv 3) rfl) (pa_cons (pv 1) (pa_cons (pv 2) pa_nil)))))) pss_nil)
      (pss_one (ps_ret (pe_ifExp (pt_val (pe_cal u_has_first (h_has_first) (p0X (E := E0)) (pa_cons (pe_fld (pv 0) rfl) (pa_cons (pv 1) (pa_cons (pv 2) pa_nil))))) (pe_ix ix_tup (pe_fld (pv 0) rfl) (pe_un un_neg pe_int) (fun _ _ => rfl)) (pe_ix ix_tup (pe_fld (pv 0) rfl) (pe_un un_neg pe_int) (fun _ _ => rfl)))))) pss_nil)))
      (pss_one (ps_ret (pe_cal u_tincture_of (h_tincture_of) (p0X (E := E0)) (pa_cons (pe_fld (pv 0) rfl) (pa_cons (pv 1) (pa_cons (pv 2) pa_nil))))))), ?_⟩
  try dsimp only [cxOf]
  clear h_has_first h_tincture_of h_has_layer po nd
  obtain ⟨v, a, p, r, rfl, ⟨x, dx, l, fv, vs, rfl, hx, hf, hl, hls⟩, wf, hp, hr, k⟩ := h
  obtain ⟨wf1, wf2, wf3⟩ := wf
  walk_at "rd"
  refine ⟨l, vs, rfl, SqL.of hl, ?_⟩
  refine for_it walk_rev (fun i σ H' => Same H H' ∧ (∃ v3, σ = [some (.ref x), some (.int (p : Int)), some (.int (r : Int)), v3]) ∧ (a.layers.reverse.take i).find? (fun (y : Layer) => y.has p r) = none) ⟨Same.refl H, ⟨none, rfl⟩, by simp⟩ (fun i σ H' _ q => SqL.of (q.1 _ _ hl)) ?_ ?_
  · rintro i u σ H1 H2 hi ⟨sa, ⟨v3, rfl⟩, hno⟩ ⟨rfl, hu⟩
    obtain ⟨L, hL, isL⟩ := pget hls hu
    have hlen : vs.length = a.layers.length := hls.length
    have wL := wf3 L (List.mem_of_getElem? hL)
    have isL2 := IsLayer.up sa isL
    have hrev : a.layers.reverse[i]? = some L := by
      rw [List.getElem?_reverse (by omega), ← hlen]
      exact hL
    walk_at "rd"
    refine ⟨u, L, a.field, p, r, rfl, isL2, wL, hp, hr, fun H3 sa3 => ?_⟩
    refine ⟨_, rfl, ?_⟩
    have sa4 : Same H H3 := fun b o z => sa3 _ _ (sa _ _ z)
    refine iteB (fun c => ?_) fun c => ?_
    · have e : a.at_ p r = L.fill.at_ a.field p r := by
        unfold Arms.at_
        rw [find_at hrev hno c]
      obtain ⟨la, ldx, ln, lfv, rfl, hla, hln, hlf⟩ := IsLayer.up sa3 isL2
      have hx3 := sa4 _ _ hx
      have hf3 := IsField.up sa4 hf
      rw [e] at k
      have wF : WfFill a.field L.fill := by
        cases L with
        | ord o l f => exact wL.2.2
        | group c n m s f => exact wL.2.2.2.2
      generalize L.fill = F at *
      cases F with
      | solid g =>
        obtain ⟨fa, rfl, hfa⟩ := id hlf
        walk_at "rd"
        exact ⟨_, g, p, r, rfl, hlf, wF, hp, hr, k _ sa4⟩
      | counter =>
        obtain rfl : lfv = .non := hlf
        obtain ⟨x1, y1, h2, ec⟩ := counter_at (p := p) (r := r) wf1 wF
        obtain ⟨fa, rfl, hfa⟩ := id hf3
        rw [ec] at k
        walk_at "rd"
        refine ⟨_, a.field, p, r, rfl, hf3, wf1, wF, hp, hr, ?_⟩
        refine ⟨_, rfl, iteB (fun c2 => ?_) fun c2 => ?_⟩
        · rw [if_pos c2] at k
          have ei := atI_end1 h2
          walk_at "rd"
          exact k _ sa4
        · rw [if_neg (by rw [c2]; decide)] at k
          have ei := atI_end2 h2
          walk_at "rd"
          exact k _ sa4
    · refine ⟨sa4, ⟨_, rfl⟩, ?_⟩
      rw [take_more hrev, List.find?_append, hno]
      simp [c]
  · rintro σ H1 ⟨sa, ⟨v3, rfl⟩, hno⟩
    have hlen : vs.length = a.layers.reverse.length := by rw [List.length_reverse]; exact hls.length
    rw [hlen, List.take_length] at hno
    have e : a.at_ p r = a.field.at_ p r := by
      unfold Arms.at_
      rw [hno]
    rw [e] at k
    have hx1 := sa _ _ hx
    have hf1 := IsField.up sa hf
    walk_at "rd"
    exact ⟨_, a.field, p, r, rfl, hf1, wf1, hp, hr, k _ sa⟩
def spBand : Sp := fun vs H Q _ => ∃ (ml : Addr) (ms : List V) (l : List (Nat × Nat)) (p r : Nat), vs = [.ref ml, .int (p : Int), .int (r : Int)] ∧ H ml = some (.lst ms) ∧ Paired (IsMark H) ms l ∧ Q (.int (bandAt l p r : Nat)) H
theorem ok_band_at (T : Txt w K mg)  : Cal P w K mg base CX0 1 "band_at" p_band_at spBand := by
  refine T.d_band_at.cal sc_band_at (fun vs H Q E h => by obtain ⟨_, _, _, _, _, rfl, _⟩ := h; rfl) ?_
  intro cdv A outer s0 H vs Q E hr h
  have nd := sc_band_at.nd
  have po := poX (CX := CX0) (P := P) (w := w) (K := K) (mg := mg) (base := base) (N := n_band_at) (q := "band_at") (sc := defScope s_band_at) (f := He.ga K "band_at") (cdv := cdv) (A := A) (outer := outer) (s := s0) (H := H) (E := E)
  refine ⟨_, (pss_cons (ps_set (i := 3) nd rfl (Or.inl rfl) (pe_op op_fdiv (pv 1) pe_int))
      (pss_cons (ps_if (pt_cmpR op_ge (pv 3) (pe_callB call_len_seq (by rfl) T.f_len PySem.boot_len (pa_cons (pv 0) pa_nil)) (nomark _)) (pss_one (ps_ret (pe_gi T.i_MURREY))) pss_nil)
      (pss_cons (ps_asg (pe_ix ix_list (pv 0) (pv 3) (fun _ _ => rfl)) (pg_tup rfl (pgs_cons (pg_name (i := 4) nd rfl (Or.inl rfl)) (pgs_cons (pg_name (i := 5) nd rfl (Or.inl rfl)) pgs_nil))))
      (pss_one (ps_ret (pe_ifExp (pt_cmpR op_eq (pe_op op_odd (pe_op op_shrN (pe_op op_add (pe_op op_mul pe_int (pv 4)) (pv 5)) (pe_op op_fdiv (pv 2) pe_int)) pe_int) pe_int (nomark _)) (pe_gi T.i_ARGENT) (pe_gi T.i_MURREY))))))), ?_⟩
  try dsimp only [cxOf]
  clear po nd
  obtain ⟨ml, ms, l, p, r, rfl, hm, hp, k⟩ := h
  have e1 : (p : Int) / 8 = ((p / 8 : Nat) : Int) := by simp
  have e2 : (r : Int) / 6 = ((r / 6 : Nat) : Int) := by simp
  have hlen : ms.length = l.length := hp.length
  walk_at "rd"
  refine iteB (fun c => ?_) fun c => ?_
  · have c' := of_decide_eq_true c
    rw [e1] at c'
    have e : bandAt l p r = 9 := by
      unfold bandAt
      rw [List.getElem?_eq_none (by omega)]
      rfl
    rw [e] at k
    exact k
  · have c' := of_decide_eq_false c
    rw [e1] at c'
    have hi : p / 8 < ms.length := by omega
    obtain ⟨x, hx, isx⟩ := pget hp (List.getElem?_eq_getElem hi)
    obtain ⟨t, ht, hta⟩ := isx
    show tSeq _ _ _ _ _
    refine ⟨_, rfl, _, rfl, _, _, _, _, rfl, rfl, SqL.of hm, (by show atI ms ((p : Int) / 8) = some (.ref t); rw [e1]; exact atI_nat (by rw [List.getElem?_eq_getElem hi, ht])), ?_⟩
    refine ⟨t, _, rfl, SqT.of hta, rfl, _, _, rfl, _, _, rfl, rfl, ?_⟩
    have eq3 : ((256 : Int) * (x.1 : Int) + (x.2 : Int)) / 2 ^ (r / 6) = (((256 * x.1 + x.2) / 2 ^ (r / 6) : Nat) : Int) := by simp
    refine ⟨_, rfl, _, _, rfl, rfl, .inl ⟨by decide, by decide⟩, _, rfl, _, _, rfl, rfl, _, rfl, _, _, rfl, rfl, ⟨by decide, by decide⟩, ?_⟩
    refine ⟨_, r / 6, rfl, congrArg V.int e2, (256 * x.1 + x.2) / 2 ^ (r / 6), congrArg V.int eq3, rfl, rfl, _, rfl, ?_⟩
    have eb : bandAt l p r = if (256 * x.1 + x.2) / 2 ^ (r / 6) % 2 = 1 then 1 else 9 := by
      unfold bandAt
      rw [hx]
      show (if (256 * x.1 + x.2).testBit (r / 6) = true then 1 else 9) = _
      rw [Nat.testBit_eq_decide_div_mod_eq]
      by_cases z : (256 * x.1 + x.2) / 2 ^ (r / 6) % 2 = 1
      · rw [decide_eq_true z, if_pos rfl, if_pos z]
      · rw [decide_eq_false z, if_neg (by decide), if_neg z]
    rw [eb] at k
    generalize (256 * x.1 + x.2) / 2 ^ (r / 6) % 2 = N at *
    refine iteB (fun c2 => ?_) fun c2 => ?_
    · have c3 : V.int (N : Int) = V.int 1 := of_decide_eq_true c2
      injection c3 with c3
      rw [if_pos (by omega)] at k
      exact k
    · have c3 : ¬ N = 1 := fun z => of_decide_eq_false c2 (by rw [z]; rfl)
      rw [if_neg c3] at k
      exact k
theorem marks_dp {K : PySem.W.Frag} {H : Hp} : ∀ {ms : List V} {l : List (Nat × Nat)}, Paired (IsMark H) ms l → DpAll K H ms (l.map fun x : Nat × Nat => PyData.tuple [.int (x.1 : Int), .int (x.2 : Int)])
  | _, _, .nil => .nil
  | _, _, .cons h t => by
    obtain ⟨p, rfl, hp⟩ := h
    exact .cons (.tup (SqT.of hp) (.cons (.int _) (.cons (.int _) .nil))) (marks_dp t)
theorem marks_lay : ∀ l : List (Nat × Nat), PyData.canLayAll0 (l.map fun x : Nat × Nat => PyData.tuple [.int (x.1 : Int), .int (x.2 : Int)]) = true ∧ PyData.depthAll (l.map fun x : Nat × Nat => PyData.tuple [.int (x.1 : Int), .int (x.2 : Int)]) ≤ 1
  | [] => ⟨by simp [PyData.canLayAll0], by simp [PyData.depthAll]⟩
  | x :: l => by
    obtain ⟨h1, h2⟩ := marks_lay l
    refine ⟨by simp [PyData.canLayAll0, PyData.canLay0, h1], ?_⟩
    simp [PyData.depthAll, PyData.depth]
    omega
theorem marks_shaped (l : List (Nat × Nat)) : SeqAt.shaped (.list (l.map fun x : Nat × Nat => PyData.tuple [.int (x.1 : Int), .int (x.2 : Int)])) = true := by
  obtain ⟨h1, h2⟩ := marks_lay l
  unfold SeqAt.shaped
  rw [Bool.and_eq_true]
  refine ⟨by simp only [PyData.canLay0, h1], decide_eq_true ?_⟩
  simp only [PyData.depth]
  omega
def spMarkedAt (K : PySem.W.Frag) : Sp := fun vs H Q _ => ∃ (v : V) (m : Marked) (p r : Nat), vs = [v, .int (p : Int), .int (r : Int)] ∧ IsMarked K H v m ∧ WfMarked m ∧ p < 480 ∧ r < 576 ∧ ∀ H', Same H H' → Q (.int (m.at_ p r : Nat)) H'
theorem ok_marked_at (T : Txt w K mg) (u_band_at : Cal P w K mg base CX0 1 "band_at" p_band_at spBand) (u_arms_at : Cal P w K mg base CX0 9 "arms_at" p_arms_at (spArmsAt K)) : Cal P w K mg base CX0 10 "marked_at" p_marked_at (spMarkedAt K) := by
  refine T.d_marked_at.cal sc_marked_at (fun vs H Q E h => by obtain ⟨_, _, _, _, rfl, _⟩ := h; rfl) ?_
  intro cdv A outer s0 H vs Q E hr h
  have nd := sc_marked_at.nd
  have po := poX (CX := CX0) (P := P) (w := w) (K := K) (mg := mg) (base := base) (N := n_marked_at) (q := "marked_at") (sc := defScope s_marked_at) (f := He.ga K "marked_at") (cdv := cdv) (A := A) (outer := outer) (s := s0) (H := H) (E := E)
  have h_band_at : Room (1) _ := hr.mono (by omega)
  have h_arms_at : Room (9) _ := hr.mono (by omega)
  refine ⟨_, (pss_cons (ps_if (PW.pt (pw_and (pt_cmpR (op_neD hr.units) (pe_fld (pv 0) rfl) (pe_lst pa_nil) (nomark _)) (pw_and1 (pt_cmpR op_lt (pv 2) (pe_gi T.i_BAND) (nomark _))))) (pss_one (ps_ret (pe_cal u_band_at (h_band_at) (p0X (E := E0)) (pa_cons (pe_fld (pv 0) rfl) (pa_cons (pv 1) (pa_cons (pv 2) pa_nil)))))) pss_nil)
      (pss_cons (ps_if (PW.pt (pw_and (pt_cmp (pc_notN (pe_fld (pv 0) rfl))) (pw_and (pt_cmpR op_lt (pv 1) pe_int (nomark _)) (pw_and1 (pt_chain op_le op_lt (pe_gi T.i_BAND) (pv 2) pe_int))))) (pss_one (ps_ret (pe_cal u_arms_at (h_arms_at) (p0X (E := E0)) (pa_cons (pe_fld (pv 0) rfl) (pa_cons (pe_op op_mul pe_int (pv 1)) (pa_cons (pe_op op_mul pe_int (pe_op op_sub (pv 2) (pe_gi T.i_BAND))) pa_nil)))))) pss_nil)
      (pss_one (ps_ret (pe_cal u_arms_at (h_arms_at) (p0X (E := E0)) (pa_cons (pe_fld (pv 0) rfl) (pa_cons (pv 1) (pa_cons (pv 2) pa_nil)))))))), ?_⟩
  try dsimp only [cxOf]
  clear h_arms_at h_band_at po nd
  obtain ⟨v, m, p, r, rfl, ⟨x, dx, ml, cl, av, cv, ms, rfl, hx, ha, hc, hm, hms, hcl⟩, wf, hp, hr, k⟩ := h
  obtain ⟨wf1, wf2, wf3, wf4⟩ := wf
  walk_at "rd"
  refine ⟨by show 0 ≤ sizeLine; decide, fun q nq => ?_⟩
  have sa : Same H (upd H q (.lst [])) := Hc.Same.new (Same.refl H) nq
  have hq : (upd H q (.lst [])) q = some (.lst []) := upd_same
  generalize upd H q (.lst []) = H1 at *
  have hx1 := sa _ _ hx
  have hm1 := sa _ _ hm
  have ha1 := IsArms.up sa ha
  have hc1 := IsCant.up sa hc
  have hms1 : Paired (IsMark H1) ms m.marks := Paired.up hms fun _ _ z => IsTwo.up sa z
  have k1 : ∀ H', Same H1 H' → Q (.int (m.at_ p r : Nat)) H' := fun H' s2 => k H' (fun b o z => s2 _ _ (sa _ _ z))
  refine ⟨_, _, .lst (SqL.of hm1) (marks_dp hms1), .lst (SqL.of hq) .nil, marks_shaped _, by decide, _, rfl, ?_⟩
  have rest : ¬ (m.marks.isEmpty = false ∧ r < 96) → tSeq (tIfS (tAnd (tB (tNotN (tFld K (tVar 0) "canton"))) (tAnd (tTest (tOp (rI0 fun i j => V.bl (decide (i < j))) (tVar 1) (tC (V.int 160)))) (tTest (tChain (rI0 fun i j => V.bl (decide (i ≤ j))) (rI0 fun i j => V.bl (decide (i < j))) (tC (V.int 96)) (tVar 2) (tC (V.int 288)))))) (tRet (tCall (spArmsAt K) [] E0 (tCons (tFld K (tVar 0) "canton") (tCons (tOp (rI CMul fun i j => V.int (i * j)) (tC (V.int 3)) (tVar 1)) (tCons (tOp (rI CMul fun i j => V.int (i * j)) (tC (V.int 3)) (tOp (rI0 fun i j => V.int (i - j)) (tVar 2) (tC (V.int 96)))) tNil))))) tNext) (tRet (tCall (spArmsAt K) [] E0 (tCons (tFld K (tVar 0) "arms") (tCons (tVar 1) (tCons (tVar 2) tNil))))) { nx := fun x H' => Q V.non H', rt := Q } [some (.ref x), some (.int (p : Int)), some (.int (r : Int))] H1 := fun hno => by
    unfold Marked.at_ at k1
    rw [if_neg hno] at k1
    cases hca : m.canton with
    | none =>
      rw [hca] at hc1 k1
      obtain rfl : cv = .non := hc1
      walk_at "rd"
      exact ⟨av, m.arms, p, r, rfl, ha1, wf1, hp, hr, k1⟩
    | some a =>
      rw [hca] at hc1 k1
      have wfa := wf2 a hca
      obtain ⟨x3, dx3, l3, fv3, vs3, rfl, hx3, hf3⟩ := id hc1
      walk_at "rd"
      refine iteB (fun c => ?_) fun c => ?_
      · have cp : p < 160 := by
          have := of_decide_eq_true c
          omega
        refine a_test (b := decide ((96 : Int) ≤ (r : Int)) && decide ((r : Int) < 288)) (v_chain (g := fun i j => decide (i ≤ j)) (g' := fun i j => decide (i < j)) v_c (v_var (by rfl)) v_c) _ ?_
        refine iteB (fun c => ?_) fun c => ?_
        · have c' : p < 160 ∧ 96 ≤ r ∧ r < 288 := by
            simp at c
            omega
          dsimp only at k1
          rw [if_pos c'] at k1
          walk_at "rd"
          have e3 : (3 : Int) * ((r : Int) - 96) = ((3 * (r - 96) : Nat) : Int) := by omega
          refine ⟨_, a, 3 * p, 3 * (r - 96), ?_, hc1, wfa, by omega, by omega, k1⟩
          show [V.ref x3, V.int (3 * (p : Int)), V.int (3 * ((r : Int) - 96))] = _
          rw [e3]
          rfl
        · have c' : ¬ (p < 160 ∧ 96 ≤ r ∧ r < 288) := by
            simp at c
            omega
          dsimp only at k1
          rw [if_neg c'] at k1
          walk_at "rd"
          exact ⟨av, m.arms, p, r, rfl, ha1, wf1, hp, hr, k1⟩
      · have c' : ¬ (p < 160 ∧ 96 ≤ r ∧ r < 288) := by
          have := of_decide_eq_false c
          omega
        dsimp only at k1
        rw [if_neg c'] at k1
        walk_at "rd"
        exact ⟨av, m.arms, p, r, rfl, ha1, wf1, hp, hr, k1⟩
  cases hmk : m.marks with
  | nil =>
    rw [hmk] at rest
    have e : PyData.eqv (.list (([] : List (Nat × Nat)).map fun x : Nat × Nat => PyData.tuple [.int (x.1 : Int), .int (x.2 : Int)])) (.list []) = true := by decide
    rw [e]
    exact rest (by simp)
  | cons y l =>
    have e : PyData.eqv (.list ((y :: l).map fun x : Nat × Nat => PyData.tuple [.int (x.1 : Int), .int (x.2 : Int)])) (.list []) = false := by simp [PyData.eqv, PyData.eqvAll]
    rw [e]
    refine a_test (b := decide ((r : Int) < 96)) (v_i0 (g := fun i j => .bl (decide (i < j))) (v_var (by rfl)) v_c) _ ?_
    refine iteB (fun c => ?_) fun c => ?_
    · have c' : r < 96 := by
        have := of_decide_eq_true c
        omega
      have eb : m.at_ p r = bandAt m.marks p r := by
        unfold Marked.at_
        rw [if_pos ⟨by rw [hmk]; rfl, c'⟩]
      rw [eb] at k1
      walk_at "rd"
      exact ⟨ml, ms, m.marks, p, r, rfl, hm1, hms1, k1 _ (Same.refl H1)⟩
    · have c' : ¬ r < 96 := by
        have := of_decide_eq_false c
        omega
      exact rest (fun z => c' z.2)
end
end Hc

namespace Hc
open PySem PySem.Spec PyProof.Rows L2
open Sh ShMarsh
set_option hygiene false
local macro_rules | `(tactic| walk_at "hp") => `(tactic| first | assumption | exact Src.ob (by assumption) | exact Rdr.ob (by assumption) | exact upd_same)
local macro_rules | `(tactic| walk_at "sq") => `(tactic| first | assumption | exact Src.sq (by assumption) | exact Rdr.sq (by assumption) | exact SqL.of (by assumption) | exact SqL.of upd_same | exact SqT.of (by assumption) | exact SqT.of upd_same)
local macro_rules | `(tactic| walk_at "cl") => `(tactic| with_reducible first | exact T.c_Bytes | exact T.c_Coat | exact T.c_Arms | exact T.c_Layer | exact T.c_Token | exact T.c_Reader | exact T.c_Words)
local macro_rules | `(tactic| walk_at "na") => `(tactic| with_reducible first | exact T.n_Bytes_some | exact T.n_Bytes_at | exact T.n_Coat_kind | exact T.n_Coat_arms | exact T.n_Coat_canton | exact T.n_Coat_marks | exact T.n_Coat_coats | exact T.n_Arms_field | exact T.n_Arms_layers | exact T.n_Layer_kind | exact T.n_Layer_numbers | exact T.n_Layer_fill | exact T.n_Token_kind | exact T.n_Token_value | exact T.n_Token_place | exact T.n_Token_behind | exact T.n_Reader_some | exact T.n_Reader_at | exact T.n_Reader_end | exact T.n_Words_some | exact T.n_Words_at)
local macro_rules | `(tactic| walk_at "ai") => `(tactic| first | assumption | exact atI_nat (by assumption) | rfl)
local macro_rules | `(tactic| walk_at "rd1") => `(tactic| first
  | refine ⟨_, rfl, ?_⟩
  | refine ⟨rfl, ?_⟩
  | refine ⟨_, _, rfl, rfl, ?_⟩
  | refine ⟨_, _, _, _, _, rfl, (by walk_at "hp"), (by walk_at "cl"), (by walk_at "na"), (by rfl), ?_⟩
  | refine ⟨_, _, _, _, rfl, (by walk_at "hp"), (by walk_at "cl"), (by walk_at "na"), Nat.le_of_ble_eq_true rfl, ?_⟩
  | refine ⟨_, _, _, _, rfl, rfl, (by walk_at "sq"), (by walk_at "ai"), ?_⟩
  | refine ⟨_, _, rfl, (by first | exact Or.inl (by walk_at "sq") | exact Or.inr (by walk_at "sq")), ?_⟩
  | refine ⟨(by walk_at "ar"), ?_⟩)
local macro_rules | `(tactic| walk_at "ar") => `(tactic| first | exact (show CDiv _ _ from ⟨by decide, by decide⟩) | exact (show (0 : Int) < _ from by decide) | exact (show CMul _ _ from .inl ⟨by omega, by omega⟩) | exact (show CMul _ _ from .inr ⟨by omega, by omega⟩))
local macro_rules | `(tactic| walk_at "rd") => `(tactic| repeat walk_at "rd1")
local macro_rules | `(tactic| walk_at "fa") => `(tactic| first | exact ⟨_, rfl, (by omega), rfl⟩ | exact ⟨_, _, rfl, (by omega), rfl⟩ | exact ⟨_, _, _, rfl, (by omega), rfl⟩ | exact ⟨_, _, _, _, rfl, (by omega), rfl⟩ | exact ⟨_, _, _, _, _, rfl, (by omega), rfl⟩)
local macro_rules | `(tactic| walk_at "vr") => `(tactic| first
  | exact v_var (by rfl)
  | exact v_c
  | (apply v_i0 <;> walk_at "vr")
  | (apply v_i <;> first | walk_at "ar" | walk_at "vr")
  | (apply v_neg <;> walk_at "vr")
  | (apply v_eq <;> walk_at "vr")
  | (apply v_eqB <;> walk_at "vr")
  | (apply v_ne <;> walk_at "vr")
  | (apply v_neB <;> walk_at "vr")
  | (apply v_chain (g := fun _ _ => _) (g' := fun _ _ => _) <;> walk_at "vr")
  | (apply v_and <;> walk_at "vr")
  | (apply v_or <;> walk_at "vr")
  | (apply v_not <;> walk_at "vr")
  | (apply v_ifI <;> walk_at "vr")
  | (apply v_ifB <;> walk_at "vr")
  | (apply v_call <;> first | walk_at "fa" | walk_at "vr")
  | (apply v_abs <;> walk_at "vr")
  | (apply v_min <;> walk_at "vr")
  | exact va_nil
  | (apply va_cons <;> walk_at "vr")
  | (apply a_test <;> walk_at "vr")
  | (apply a_B <;> walk_at "vr")
  | (apply a_and <;> walk_at "vr")
  | (apply a_or <;> walk_at "vr")
  | (apply a_not <;> walk_at "vr"))
local macro_rules | `(tactic| walk_at "rs") => `(tactic| first
  | (apply r_ret; walk_at "vr")
  | (apply r_set; walk_at "vr"; walk_at "rs")
  | (apply r_ifI; walk_at "vr"; intro _; walk_at "rs"; intro _; walk_at "rs")
  | (apply r_ifB; walk_at "vr"; intro _; walk_at "rs"; intro _; walk_at "rs"))

local macro_rules | `(tactic| walk_at "na") => `(tactic| with_reducible first | exact T.n_Spot_number | exact T.n_Spot_coat | exact T.n_Spot_p | exact T.n_Spot_r | exact T.n_NoCoat_place)
local macro_rules | `(tactic| walk_at "cl") => `(tactic| with_reducible first | exact T.c_Coat | exact T.c_Spot)
section
variable {P : Program} {w : World} {K : PySem.W.Frag} {mg : Str → Option Value} {base : Heap}
def spPoint : Sp := spFun fun vs v => ∃ p r : Int, vs = [.int p, .int r] ∧ v = .bl (decide (p < 480) && decide (r < 576))
theorem ok_is_point (T : Txt w K mg)  : Cal P w K mg base CX0 1 "is_point" p_is_point spPoint := by
  refine T.d_is_point.cal sc_is_point (fun vs H Q E h => by obtain ⟨_, ⟨_, _, rfl, _⟩, _⟩ := h; rfl) ?_
  intro cdv A outer s0 H vs Q E hr h
  have nd := sc_is_point.nd
  have po := poX (CX := CX0) (P := P) (w := w) (K := K) (mg := mg) (base := base) (N := n_is_point) (q := "is_point") (sc := defScope s_is_point) (f := He.ga K "is_point") (cdv := cdv) (A := A) (outer := outer) (s := s0) (H := H) (E := E)
  refine ⟨_, (pss_one (ps_ret (pe_and (pe_cmpR op_lt (pv 0) (pe_gi T.i_WIDE) (nomark _)) (pe_one (pe_cmpR op_lt (pv 1) (pe_gi T.i_HIGH) (nomark _)))))), ?_⟩
  try dsimp only [cxOf]
  clear po nd
  obtain ⟨_, ⟨p, r, rfl, rfl⟩, k⟩ := h
  exact v_and (v_i0 (g := fun i j => .bl (decide (i < j))) (v_var (by rfl)) v_c) (v_i0 (g := fun i j => .bl (decide (i < j))) (v_var (by rfl)) v_c) _ k
theorem main_at (T : Txt w K mg) {fd : FuncData} (FD : FunD K "at" "at" (defArgs s_at) (defBody s_at) (defScope s_at) [] [] (He.ga K "at") fd) (u_coat_of_bytes : Cal P w K mg base (L2.CX P w) 20 "coat_of_bytes" p_coat_of_bytes (spCoatOf K)) (u_is_point : Cal P w K mg base CX0 1 "is_point" p_is_point spPoint) (u_spot_of : Cal P w K mg base CX0 6 "spot_of" p_spot_of (spSpot K)) (u_marked_at : Cal P w K mg base CX0 10 "marked_at" p_marked_at (spMarkedAt K)) : FnOk P w K mg base CX0 21 (He.ga K "at") fd p_at (spMain3 K PyWqaqbh.at_) := by
  refine FD.ok sc_at (fun vs H Q E h => by obtain ⟨_, _, _, _, rfl, _⟩ := h; rfl) ?_
  intro cdv A outer s0 H vs Q E hr h
  have nd := sc_at.nd
  have po := poX (CX := CX0) (P := P) (w := w) (K := K) (mg := mg) (base := base) (N := n_at) (q := "at") (sc := defScope s_at) (f := He.ga K "at") (cdv := cdv) (A := A) (outer := outer) (s := s0) (H := H) (E := E)
  have h_coat_of_bytes : Room (20) _ := hr.mono (by omega)
  have h_is_point : Room (1) _ := hr.mono (by omega)
  have h_spot_of : Room (6) _ := hr.mono (by omega)
  have h_marked_at : Room (10) _ := hr.mono (by omega)
  refine ⟨_, (pss_cons (ps_try_as (i := 4) (Wout := fun _ _ _ _ => False) rfl rfl nd rfl rfl ⟨rfl, by decide, Or.inl T.g_NoCoat⟩ takes0
        (fun W pn xe tk _ => (pss_one (ps_set (i := 3) nd rfl (Or.inl rfl) (pe_calS u_coat_of_bytes (h_coat_of_bytes) (fun σ => passAt tk σ) (by exact (pa_cons (pv 2) pa_nil))))))
        (fun a oe cls d pn hz hf => (pss_one (ps_ret (pe_lst (pa_cons (pe_gi T.i_NO_COAT) (pa_cons (pe_xf T.x_NoCoat.xf (T.x_NoCoat.no _ (by simp)) hz hf (pv 4)) pa_nil)))))))
      (pss_cons (ps_if (pt_not (pt_val (pe_cal u_is_point (h_is_point) (p0X (E := E0)) (pa_cons (pv 0) (pa_cons (pv 1) pa_nil))))) (pss_one (ps_ret (pe_lst (pa_cons (pe_gi T.i_NO_POINT) pa_nil)))) pss_nil)
      (pss_cons (ps_set (i := 5) nd rfl (Or.inl rfl) (pe_cal u_spot_of (h_spot_of) (p0X (E := E0)) (pa_cons (pv 3) (pa_cons (pv 0) (pa_cons (pv 1) pa_nil)))))
      (pss_one (ps_ret (pe_lst (pa_cons (pe_cal u_marked_at (h_marked_at) (p0X (E := E0)) (pa_cons (pe_fld (pv 5) rfl) (pa_cons (pe_fld (pv 5) rfl) (pa_cons (pe_fld (pv 5) rfl) pa_nil)))) pa_nil))))))), ?_⟩
  try dsimp only [cxOf]
  clear h_marked_at h_spot_of h_is_point h_coat_of_bytes po nd
  obtain ⟨p, r, c, ns, rfl, hp, hr, hi, hb, hS, kQ⟩ := h
  rw [toB_bv hi] at hS
  have edue := due_at (p := (p : Int)) (r := (r : Int)) (by omega) (by omega) hi
  rw [show ((p : Int).toNat) = p by simp, show ((r : Int).toNat) = r by simp, show ShCoats.answer (.at_ (toB ns) p r) = ShCoats.ofCoat (toB ns) (fun c => if WIDE ≤ p ∨ HIGH ≤ r then ShCoats.says (-2) else ShCoats.says (c.at_ p r : Nat)) from rfl] at edue
  rw [edue] at kQ
  walk_at "rd"
  refine ⟨c, toB ns, rfl, hS, by rw [toB_len]; exact hb, fun e he d H1 sa hd => ⟨true, T.x_NoCoat.me, fun _ a na => ?_, fun q => Bool.noConfusion q⟩, fun co he v H1 sa is => ?_⟩
  · refine ⟨_, rfl, rfl, rfl, d, _, _, rfl, hd, rfl, ?_⟩
    refine ⟨by show 2 ≤ sizeLine; decide, fun p hp => kQ p _ ?_⟩
    rw [told_bad he]
    exact upd_same
  · have wf := wf_read he
    rw [told_ok he] at kQ
    walk_at "rd"
    refine ⟨_, ⟨(p : Int), (r : Int), rfl, rfl⟩, _, rfl, ?_⟩
    refine iteB (fun c1 => ?_) fun c1 => ?_
    · have c2 : WIDE ≤ p ∨ HIGH ≤ r := by
        have hw : WIDE = 480 := rfl
        have hh : HIGH = 576 := rfl
        rw [hw, hh]
        simp at c1
        omega
      rw [if_pos c2] at kQ
      refine ⟨by show 1 ≤ sizeLine; decide, fun q hq => kQ q _ ?_⟩
      exact upd_same
    · have c2 : p < 480 ∧ r < 576 := by
        simp at c1
        omega
      have c3 : ¬ (WIDE ≤ p ∨ HIGH ≤ r) := by
        have hw : WIDE = 480 := rfl
        have hh : HIGH = 576 := rfl
        rw [hw, hh]
        omega
      rw [if_neg c3] at kQ
      refine ⟨_, rfl, _, rfl, _, rfl, v, co, p, r, rfl, is, wf.1, wf.2, c2.1, c2.2, fun x dx vm H2 n m p' r' e hp' hr' wm sa2 hx hm => ?_⟩
      have ec : co.at_ p r = m.at_ p' r' := by
        unfold Coat.at_
        rw [e]
      rw [ec] at kQ
      walk_at "rd"
      refine ⟨vm, m, p', r', rfl, hm, wm, hp', hr', fun H3 sa3 => ?_⟩
      refine ⟨by show 1 ≤ sizeLine; decide, fun q hq => kQ q _ ?_⟩
      exact upd_same
end
end Hc

namespace Hc
open PySem PySem.Spec PyProof.Rows L2

theorem facts_main {P : Program} {w : World} {K : PySem.W.Frag} {h : Heap} {mg : Str → Option Value} {fa' : Addr} (X : K.In h) (G : h.Ns mainGlobals mg) (hfa : mg ("at" : Str) = some (.ref fa')) (c : He.SaysT fa fn tabs w K) (e : exb K = true) :
    ∃ fd : FuncData, (∀ (s : Shared) (us : List Value), us.length = p_at.length → BindsTo s fd ⟨us, []⟩ (p_at.zip us)) ∧ ∀ base : Heap, FnOk P w K mg base CX0 21 fa' fd p_at (spMain3 K PyWqaqbh.at_) := by
  have T := txt_of X G c e
  obtain ⟨fd, FD⟩ := c.d.def_ 53 (d := dd_at) rfl
  have ea := hfa.symm.trans T.d_at.g
  cases ea
  refine ⟨fd, FunD.bindsA FD fun _ _ _ _ _ _ us hl => match us, hl with | [_, _, _], _ => rfl, fun base => ?_⟩
  have m_Bytes := ok_Bytes_init (P := P) (w := w) (base := base) T
  have q_NoCoat := ok_NoCoat_init (P := P) (w := w) (base := base) T
  have u_read_byte := ok_read_byte (P := P) (base := base) T q_NoCoat
  have m_Coat := ok_Coat_init (P := P) (w := w) (base := base) T
  have u_read_tinctures := ok_read_tinctures (P := P) (base := base) T u_read_byte q_NoCoat
  have u_read_field := ok_read_field (P := P) (base := base) T u_read_byte u_read_tinctures
  have m_Arms := ok_Arms_init (P := P) (w := w) (base := base) T
  have u_read_fill := ok_read_fill (P := P) (base := base) T u_read_byte u_read_field
  have m_Layer := ok_Layer_init (P := P) (w := w) (base := base) T
  have u_read_layer := ok_read_layer (P := P) (base := base) T u_read_byte u_read_fill m_Layer
  have u_read_arms := ok_read_arms (P := P) (base := base) T u_read_field m_Arms u_read_byte u_read_layer
  have u_read_marked := ok_read_marked (P := P) (base := base) T m_Coat u_read_arms u_read_byte
  have u_read_coat := all_read_coat T u_read_byte u_read_marked m_Coat 4
  have u_coat_of_bytes := ok_coat_of_bytes (P := P) (base := base) T m_Bytes u_read_coat q_NoCoat
  have u_is_point := ok_is_point (P := P) (base := base) T 
  have u_side_of := ok_side_of (P := P) (base := base) T 
  have u_quarter_at := ok_quarter_at (P := P) (base := base) T u_side_of
  have u_within := ok_within (P := P) (base := base) T u_quarter_at
  have u_how_many_parts := all_how_many_parts (P := P) (base := base) T 4
  have m_Spot := ok_Spot_init (P := P) (w := w) (base := base) T
  have u_spot_of := ok_spot_of (P := P) (base := base) T u_within u_how_many_parts m_Spot
  have u_band_at := ok_band_at (P := P) (base := base) T 
  have u_off := ok_off (P := P) (base := base) T 
  have u_other_side := ok_other_side (P := P) (base := base) T 
  have u_bend_of := ok_bend_of (P := P) (base := base) T 
  have u_bend_off := ok_bend_off (P := P) (base := base) T u_off
  have u_is_near_bend := ok_is_near_bend (P := P) (base := base) T u_bend_of u_bend_off
  have u_is_on_straight := ok_is_on_straight (P := P) (base := base) T u_off u_other_side u_is_near_bend
  have u_is_on_edge := ok_is_on_edge (P := P) (base := base) T u_off
  have u_has_ordinary := ok_has_ordinary (P := P) (base := base) T u_is_on_straight u_off u_is_near_bend u_other_side u_is_on_edge
  have u_part_of := ok_part_of (P := P) (base := base) T 
  have m_Middle := ok_Middle_init (P := P) (w := w) (base := base) T
  have u_in_rows := ok_in_rows (P := P) (base := base) T u_part_of m_Middle
  have u_half_of := ok_half_of (P := P) (base := base) T 
  have u_middle_of := ok_middle_of (P := P) (base := base) T u_part_of m_Middle
  have u_middles_of := ok_middles_of (P := P) (base := base) T u_in_rows u_half_of u_middle_of
  have u_is_round := ok_is_round (P := P) (base := base) T 
  have u_is_mullet := ok_is_mullet (P := P) (base := base) T 
  have u_is_crossed := ok_is_crossed (P := P) (base := base) T u_is_mullet
  have u_is_tower := ok_is_tower (P := P) (base := base) T 
  have u_is_wheel := ok_is_wheel (P := P) (base := base) T 
  have u_is_arrow := ok_is_arrow (P := P) (base := base) T 
  have u_has_charge := ok_has_charge (P := P) (base := base) T u_is_round u_is_crossed u_is_tower u_is_wheel u_is_arrow
  have u_has_group := ok_has_group (P := P) (base := base) T u_middles_of u_has_charge
  have u_has_layer := ok_has_layer (P := P) (base := base) T u_has_ordinary u_has_group
  have u_is_above_bend := ok_is_above_bend (P := P) (base := base) T u_bend_of u_bend_off
  have u_is_parted := all_is_parted (P := P) (base := base) T u_off u_is_above_bend u_other_side 3
  have u_bendy_number := ok_bendy_number (P := P) (base := base) T u_bend_of u_bend_off
  have u_piece_number := ok_piece_number (P := P) (base := base) T u_off u_bendy_number u_other_side u_bend_of
  have u_has_first := ok_has_first (P := P) (base := base) T u_is_parted u_piece_number
  have u_tincture_of := ok_tincture_of (P := P) (base := base) T u_has_first
  have u_arms_at := ok_arms_at (P := P) (base := base) T u_has_layer u_tincture_of u_has_first
  have u_marked_at := ok_marked_at (P := P) (base := base) T u_band_at u_arms_at
  exact main_at T FD u_coat_of_bytes u_is_point u_spot_of u_marked_at
end Hc
open PySem PySem.W PySem.Calls PyProof.Rows
set_option maxHeartbeats 8000000 in
theorem PySem.Challenge.cw_heraldcoats_s02_at_holds : PySem.Challenge.rw_heraldcoats_s02_at.Holds := by
  w_on
  refine holds_os (r := PySem.Challenge.rw_heraldcoats_s02_at) (q := Hc.qv) (loose := Hc.loose) (XP := XL Hc.qv []) (YP := Hc.hk.says) (kwd := []) Hc.left Hc.hk.of Hc.hk.keeps (fun s z => xl_of s (Bool.and_eq_true_iff.mp z).1) XL.keeps
    (by rfl) (by rfl) (by rfl) (fun s z => recFacts_of (Bool.and_eq_true_iff.mp z).2) os_shapes (by decide +kernel) (by decide +kernel) ⟨rfl, rfl, rfl, rfl, rfl, by decide +kernel⟩ ?hw ?hc
  case hw => exact ⟨[.int 0, .int 0, .list []], by decide +kernel, by decide +kernel⟩
  case hc =>
    refine Hc.walk_specE (r := PySem.Challenge.rw_heraldcoats_s02_at) (k := 21) (CX := L2.CX0) (ps := Hc.p_at) (sp := fun K => Hc.spMain3 K PyWqaqbh.at_) (by decide +kernel) rfl rfl ⟨rfl, by decide, by decide⟩ ?F ?S (fun _ _ _ _ z => z)
    case F =>
      rintro w mg fa' h ⟨K, KX, c, e⟩ G hmg
      obtain ⟨fd, hb, hF⟩ := Hc.facts_main (P := PySem.Challenge.rw_heraldcoats_s02_at.prog) KX G hmg c e
      exact ⟨K, KX, fd, hb, fun base _ _ => hF base⟩
    case S =>
      intro K H xs a hO hwi hask hx
      obtain ⟨a1, a2, a3, u⟩ := a
      have q : (Codec.inInt 0 4294967295 a1 && (Codec.inInt 0 4294967295 a2 && ((Codec.inLen 0 2000 a3 && a3.all (Codec.inInt 0 255)) && true))) = true := hwi
      simp only [Bool.and_eq_true] at q
      have q1 := Codec.inInt_iff.mp q.1
      have q2 := Codec.inInt_iff.mp q.2.1
      have ql := (Codec.inNat_iff.mp q.2.2.1.1).2
      obtain ⟨p, rfl⟩ := Int.eq_ofNat_of_zero_le q1.1
      obtain ⟨r, rfl⟩ := Int.eq_ofNat_of_zero_le q2.1
      cases hx with
      | cons h1 hx =>
      cases hx with
      | cons h2 hx =>
      cases hx with
      | cons h3 hx =>
        cases hx
        cases h1
        cases h2
        cases h3 with
        | lst hs ha =>
          have e := L2.ints_dw a3 _ ha
          subst e
          refine ⟨p, r, _, a3, rfl, by omega, by omega, fun n hn => ?_, by omega, hs, fun q H' hp => .lst (L2.SqL.of hp) (L2.dw_ints _)⟩
          exact Codec.inInt_iff.mp (List.all_eq_true.mp q.2.2.1.2 n hn)
#print axioms PySem.Challenge.cw_heraldcoats_s02_at_holds
