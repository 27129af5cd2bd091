import PyProof.Rows.All
import Wide.All
import OpenK.AllK
import Wide.FinOn
import PyProof.EqAt
import PyProof.EqKinds
import PyProof.TupleCall
import KE.KStateDown
import Open.SpecLaws
import KE.OsGo
import HandS.ForSpec
import HandS.Comp
import HandS.Iter
import HandS.Text
import HandS.Dict
import HandS.More
import HandS.Defaults
import HandS.ExcInit
import HandS.ExcField
import HandS.NoneIn
import HandS.TupAny
import HandS.WideBits
import HandS.Conv
import HandS.Strs
import HandS.Evl
import HandS.Head0
import HandS.Head1
import HandS.Head2
import HandS.HeadHook1
import HandS.HeadHook2
import HandS.HeadHook3
import KE.GoesEnum
import KE.GoesMore
import KE.DataMinMax
import KE.DatumOrd
import HandS.Walk
import PySem.Challenge.RW_heraldcoats_s05_words
set_option Elab.async false
set_option linter.all false
set_option maxRecDepth 100000
set_option maxHeartbeats 4000000

/-! ### A. words of this claim: a def ready to be called, classes made, own errors -/
namespace Hc
open PySem PySem.Spec PyProof.Rows L2
abbrev B : Type := List UInt8
/-! #### names and constants -/
section
variable {X : Cx}
theorem pe_gi {x : Str} {i : Int} {pos : Pos} (h : ∃ t, X.mg x = some (.int i t)) (hg : Gl X x := by rfl) (hd : (x == ("__debug__" : Str)) = false := by decide) : PE X (.Name x pos) (tC (.int i)) := by
  obtain ⟨t, e⟩ := h
  exact pe_glob hg e ⟨t, rfl⟩ hd
theorem pe_gs {x z : Str} {pos : Pos} (h : ∃ t, X.mg x = some (.str z t)) (hg : Gl X x := by rfl) (hd : (x == ("__debug__" : Str)) = false := by decide) : PE X (.Name x pos) (tC (.str z)) := by
  obtain ⟨t, e⟩ := h
  exact pe_glob hg e ⟨t, rfl⟩ hd
theorem pe_gr {x : Str} {a : Addr} {pos : Pos} (h : X.mg x = some (.ref a)) (hg : Gl X x := by rfl) (hd : (x == ("__debug__" : Str)) = false := by decide) : PE X (.Name x pos) (tC (.ref a)) := pe_glob hg h rfl hd
end
/-! #### defs -/
/-- the def x of the top keeps the promise sp -/
structure Cal (P : Program) (w : World) (K : PySem.W.Frag) (mg : Str → Option Value) (base : Heap) (CX : CXT) (k : Nat) (x : Str) (ps : List Str) (sp : Sp) : Prop where
  ex : ∃ fd : FuncData, FnOk P w K mg base CX k (He.ga K x) fd ps sp ∧ Binds K fd ps []
  g : mg x = some (.ref (He.ga K x))
  kp : PySem.W.keepIn K (.ref (He.ga K x)) = true
/-- the class x of the top is made by an __init__ that keeps the promise sp -/
structure Mak (P : Program) (w : World) (K : PySem.W.Frag) (mg : Str → Option Value) (base : Heap) (k : Nat) (x : Str) (ps : List Str) (sp : Sp) : Prop where
  ex : ∃ fd : FuncData, FnOk P w K mg base CX0 k (He.ma K (He.ga K x) "__init__") fd ps sp ∧ Binds K fd ps []
  m : Mk K (He.ga K x) (He.ma K (He.ga K x) "__init__")
  g : mg x = some (.ref (He.ga K x))
/-- the same of an own error's class over ValueError -/
structure Exq (P : Program) (w : World) (K : PySem.W.Frag) (mg : Str → Option Value) (base : Heap) (k : Nat) (x : Str) (ps : List Str) (sp : Sp) : Prop where
  ex : ∃ fd : FuncData, FnOk P w K mg base CX0 k (He.ma K (He.ga K x) "__init__") fd ps sp ∧ Binds K fd ps []
  T : OexC K (He.ga K x)
  iC : PySem.W.findIn K (.ref (He.ga K x)) "__init__" = some (some (.ref (He.ma K (He.ga K x) "__init__")))
  tI : PySem.W.typeIn K (.ref (He.ma K (He.ga K x) "__init__")) = some (.type "function")
  g : mg x = some (.ref (He.ga K x))
theorem Cal.mono {P : Program} {w : World} {K : PySem.W.Frag} {mg : Str → Option Value} {base : Heap} {CX : CXT} {j k : Nat} {x : Str} {ps : List Str} {sp : Sp} (U : Cal P w K mg base CX j x ps sp) (h : j ≤ k) : Cal P w K mg base CX k x ps sp := by
  obtain ⟨⟨fd, F, b⟩, g, kp⟩ := U
  exact ⟨⟨fd, F.mono h, b⟩, g, kp⟩
theorem Cal.imp {P : Program} {w : World} {K : PySem.W.Frag} {mg : Str → Option Value} {base : Heap} {CX : CXT} {k : Nat} {x : Str} {ps : List Str} {sp sp' : Sp} (U : Cal P w K mg base CX k x ps sp) (h : ∀ vs H Q E, sp' vs H Q E → sp vs H Q E) : Cal P w K mg base CX k x ps sp' := by
  obtain ⟨⟨fd, F, b⟩, g, kp⟩ := U
  exact ⟨⟨fd, F.imp h, b⟩, g, kp⟩
section
variable {X : Cx} {CX : CXT} {k : Nat} {x : Str} {ps : List Str} {sp : Sp} {E : XK} {p pos : Pos} {e : Expr} {es : List Expr} {t : TA}
theorem pe_cal (U : Cal X.prog X.w X.K X.mg X.base CX k x ps sp) (hr : Room k X.A) (hx : Passes CX X E) (ha : PA X (e :: es) t) (hg : Gl X x := by rfl) (hdb : (x == ("__debug__" : Str)) = false := by decide)
    (he : starEach (e :: es) X.env = (false, eval e X.env) :: starEach es X.env := by rfl) (hpl : (backTo pos (starEach es X.env)).any (·.1) = false := by rfl) : PE X (.Call (.Name x p) (e :: es) [] pos) (tCall sp [] E t) := by
  obtain ⟨⟨fd, F, b⟩, g, kp⟩ := U
  exact pe_call F hr hg g kp b .nil hx ha hdb he hpl
theorem pe_cal0 (U : Cal X.prog X.w X.K X.mg X.base CX k x ps sp) (hr : Room k X.A) (hx : Passes CX X E) (hg : Gl X x := by rfl) (hdb : (x == ("__debug__" : Str)) = false := by decide) : PE X (.Call (.Name x p) [] [] pos) (tCall sp [] E tNil) := by
  obtain ⟨⟨fd, F, b⟩, g, kp⟩ := U
  exact pe_call0 F hr hg g kp b .nil hx hdb
theorem pe_calS {ES : L2.St → XK} (U : Cal X.prog X.w X.K X.mg X.base CX k x ps sp) (hr : Room k X.A) (hx : ∀ σ, PassesAt CX X σ (ES σ)) (ha : PA X (e :: es) t) (hg : Gl X x := by rfl) (hdb : (x == ("__debug__" : Str)) = false := by decide)
    (he : starEach (e :: es) X.env = (false, eval e X.env) :: starEach es X.env := by rfl) (hpl : (backTo pos (starEach es X.env)).any (·.1) = false := by rfl) : PE X (.Call (.Name x p) (e :: es) [] pos) (tCallS sp ES t) := by
  obtain ⟨⟨fd, F, b⟩, g, kp⟩ := U
  exact pe_callS F hr hg g kp b hx ha hdb he hpl
theorem pe_mak (U : Mak X.prog X.w X.K X.mg X.base k x ps sp) (hr : Room (k + 1) X.A) (ha : PA X (e :: es) t) (hg : Gl X x := by rfl) (hdb : (x == ("__debug__" : Str)) = false := by decide)
    (he : starEach (e :: es) X.env = (false, eval e X.env) :: starEach es X.env := by rfl) (hpl : (backTo pos (starEach es X.env)).any (·.1) = false := by rfl) : PE X (.Call (.Name x p) (e :: es) [] pos) (tMake (He.ga X.K x) sp [] E0 t) := by
  obtain ⟨⟨fd, F, b⟩, m, g⟩ := U
  exact pe_make m F hr hg g b .nil pass0 ha hdb he hpl
theorem pmk_exq (U : Exq X.prog X.w X.K X.mg X.base k x ps sp) (hr : Room (k + 1) X.A) (ha : PA X (e :: es) t) (hg : Gl X x := by rfl) (hdb : (x == ("__debug__" : Str)) = false := by decide)
    (he : starEach (e :: es) X.env = (false, eval e X.env) :: starEach es X.env := by rfl) (hpl : (backTo pos (starEach es X.env)).any (·.1) = false := by rfl) : PMk X (.Call (.Name x p) (e :: es) [] pos) (tMkO (He.ga X.K x) sp [] t) := by
  obtain ⟨⟨fd, F, b⟩, T, iC, tI, g⟩ := U
  exact pmk_oex T iC tI F hr b .nil pass0 hg g ha hdb he hpl
end
/-- nobody calls it -/
theorem cal_never {P : Program} {w : World} {K : PySem.W.Frag} {mg : Str → Option Value} {base : Heap} {CX : CXT} {k : Nat} {x : Str} {ps : List Str} {st : Stmt} {f : Addr} {fd : FuncData} : FnOk P w K mg base CX k f fd ps (fun _ _ _ _ => False) :=
  ⟨fun _ _ _ _ h => h.elim, fun _ _ _ _ _ _ _ _ _ _ _ _ _ h => h.elim⟩
/-! #### the class of an own error, decided -/
def oexB (K : PySem.W.Frag) (C : Addr) : Bool := match K.lookup C with
  | some ⟨.type "type", _, .cls cd, sl⟩ => (match cd.mro, sl.toList with
    | .ref C' :: bm, [_, _, _, _, some (.builtin n), _] => C' == C && n == "ValueError.__new__" && !cd.hasDel && cd.hasDict && PySem.HandSPX.refsVE bm
    | _, _ => false)
  | _ => false
theorem oexB_ok {K : PySem.W.Frag} {C : Addr} (q : oexB K C = true) : ∃ nm q N bs bm sn sub ab col dd k0 k1 k2 k3 k5, K.lookup C = some (excClassObj nm q C N bs bm true sn sub ab col dd k0 k1 k2 k3 k5 "ValueError.__new__") ∧ PySem.HandSPX.refsVE bm = true := by
  unfold oexB at q
  split at q
  · rename_i dd cd sl ho
    split at q
    · rename_i C' bm k0 k1 k2 k3 n k5 hm hs
      simp only [Bool.and_eq_true, beq_iff_eq, Bool.not_eq_true'] at q
      obtain ⟨⟨⟨⟨rfl, rfl⟩, hdel⟩, hdict⟩, ht⟩ := q
      obtain ⟨nm, bs, mro, ns, qn, hd, sn, sub, ab, col, del⟩ := cd
      dsimp only at hm hdel hdict
      subst hm hdel hdict
      have hsl : sl = #[k0, k1, k2, k3, some (.builtin "ValueError.__new__"), k5] := by
        obtain ⟨l⟩ := sl
        simp only at hs
        rw [hs]
      subst hsl
      exact ⟨nm, qn, ns, bs, bm, sn, sub, ab, col, dd, k0, k1, k2, k3, k5, ho, ht⟩
    · cases q
  · cases q
/-- what is asked of the class x of an own error whose fields are fs -/
def errB (K : PySem.W.Frag) (x : Str) (fs : List Str) : Bool :=
  oexB K (He.ga K x) && (decide (PySem.W.findIn K (.ref (He.ga K x)) "__setattr__" = some (some (.builtin "object.__setattr__"))) && (decide (PySem.W.subIn K (.ref (He.ga K x)) (.type "BaseException") = some true) &&
    (decide (PySem.W.typeIn K (.ref (He.ga K x)) = some (.type "type")) && (PySem.W.keepIn K (.ref (He.ga K x)) && (decide (PySem.W.findIn K (.ref (He.ga K x)) "__init__" = some (some (.ref (He.ma K (He.ga K x) "__init__")))) &&
    (decide (PySem.W.typeIn K (.ref (He.ma K (He.ga K x) "__init__")) = some (.type "function")) && (xfB K (He.ga K x) && (decide (PySem.W.exmOne K (.ref (He.ga K x)) (.ref (He.ga K x)) = some true) && fs.all fun f => decide (PySem.W.findIn K (.ref (He.ga K x)) f = some none)))))))))
structure ErrT (K : PySem.W.Frag) (x : Str) (fs : List Str) : Prop where
  T : OexC K (He.ga K x)
  iC : PySem.W.findIn K (.ref (He.ga K x)) "__init__" = some (some (.ref (He.ma K (He.ga K x) "__init__")))
  tI : PySem.W.typeIn K (.ref (He.ma K (He.ga K x) "__init__")) = some (.type "function")
  xf : XfC K (He.ga K x)
  me : PySem.W.exmOne K (.ref (He.ga K x)) (.ref (He.ga K x)) = some true
  no : ∀ f ∈ fs, PySem.W.findIn K (.ref (He.ga K x)) f = some none
theorem errB_ok {K : PySem.W.Frag} {x : Str} {fs : List Str} (h : errB K x fs = true) : ErrT K x fs := by
  unfold errB at h
  simp only [Bool.and_eq_true, decide_eq_true_eq, List.all_eq_true] at h
  obtain ⟨h1, h2, h3, h4, h5, h6, h7, h8, h9, h10⟩ := h
  exact ⟨⟨oexB_ok h1, h2, h3, h4, h5⟩, h6, h7, xfB_ok h8, h9, h10⟩
/-! #### the heap: what stays, what is new -/
/-- all but the object at s is as it was -/
def Bt (s : Addr) (H H' : Hp) : Prop := ∀ b o, b ≠ s → H b = some o → H' b = some o
theorem Bt.refl {s : Addr} {H : Hp} : Bt s H H := fun _ _ _ h => h
theorem Bt.trans {s : Addr} {H H1 H2 : Hp} (a : Bt s H H1) (b : Bt s H1 H2) : Bt s H H2 := fun c o n h => b c o n (a c o n h)
theorem Bt.same {s : Addr} {H H1 : Hp} (a : Same H H1) : Bt s H H1 := fun c o _ h => a c o h
theorem Bt.new {s : Addr} {H H1 : Hp} {p : Addr} {o : HO} (a : Bt s H H1) (hp : H1 p = none) : Bt s H (upd H1 p o) := fun c u n h => by
  rw [upd_ne (ne_of_none (a c u n h) hp)]
  exact a c u n h
theorem Bt.put {s : Addr} {H H1 : Hp} {o : HO} (a : Bt s H H1) : Bt s H (upd H1 s o) := fun c u n h => by
  rw [upd_ne n]
  exact a c u n h
theorem Same.new {H H1 : Hp} {p : Addr} {o : HO} (a : Same H H1) (hp : H1 p = none) : Same H (upd H1 p o) := fun c u h => by
  rw [upd_ne (ne_of_none (a c u h) hp)]
  exact a c u h
theorem Bt.seq {K : PySem.W.Frag} {s a C dx : Addr} {fs : List (Str × V)} {H H' : Hp} {xs : List V} (e : Bt s H H') (hs : H s = some (.ins C dx fs)) (h : SqL K H a xs) : SqL K H' a xs := by
  rcases h with (h | ⟨o, h⟩) | h
  · exact .inl (.inl (e _ _ (ne_of h hs (by intro z; cases z)) h))
  · exact .inl (.inr ⟨o, e _ _ (ne_of h hs (by intro z; cases z)) h⟩)
  · exact .inr h
theorem Bt.seqT {K : PySem.W.Frag} {s a C dx : Addr} {fs : List (Str × V)} {H H' : Hp} {xs : List V} (e : Bt s H H') (hs : H s = some (.ins C dx fs)) (h : SqT K H a xs) : SqT K H' a xs := by
  rcases h with (h | ⟨o, h⟩) | h
  · exact .inl (.inl (e _ _ (ne_of h hs (by intro z; cases z)) h))
  · exact .inl (.inr ⟨o, e _ _ (ne_of h hs (by intro z; cases z)) h⟩)
  · exact .inr h
/-- what H' has and H had not -/
def Dn (H H' : Hp) : Hp := fun a => match H a with
  | some _ => none
  | none => H' a
theorem dn_of {H H' : Hp} {a : Addr} {o : HO} (n : H a = none) (h : H' a = some o) : Dn H H' a = some o := by
  unfold Dn
  rw [n]
  exact h
theorem of_dn {H H' : Hp} {a : Addr} {o : HO} (h : Dn H H' a = some o) : H a = none ∧ H' a = some o := by
  unfold Dn at h
  cases q : H a with
  | none =>
    rw [q] at h
    exact ⟨rfl, h⟩
  | some u =>
    rw [q] at h
    cases h
theorem dn_same {H H' : Hp} : Same (Dn H H') H' := fun _ _ h => (of_dn h).2
theorem dn_mono {H H' G G' : Hp} (h1 : ∀ a, G a = none → H a = none) (h2 : ∀ a o, G a = none → G' a = some o → H' a = some o) : Same (Dn G G') (Dn H H') := fun a o h =>
  dn_of (h1 a (of_dn h).1) (h2 a o (of_dn h).1 (of_dn h).2)
theorem Bt.none {s : Addr} {H H' : Hp} {so : HO} (e : Bt s H H') (hs : H' s = some so) : ∀ a, H' a = Option.none → H a = Option.none := fun a h => by
  cases q : H a with
  | none => rfl
  | some o =>
    by_cases c : a = s
    · rw [c, hs] at h
      cases h
    · rw [e a o c q] at h
      cases h
end Hc
namespace Hc
open PySem PySem.Spec PyProof.Rows L2
section
variable {P : Program} {w : World} {K : PySem.W.Frag} {mg : Str → Option Value} {base : Heap} {N : List Str} {q : Str} {sc : Scope} {f : Addr} {cdv : Value} {A : Around} {outer : List Env} {s : Shared} {H : Hp} {E : XK}
theorem tkX : Takes (cxOf (L2.CX P w) P w K mg base N q sc f cdv A outer s H E) (fun cls d _ H => E cls d H) := takes_of rfl rfl rfl rfl
theorem paX : Passes (L2.CX P w) (cxOf (L2.CX P w) P w K mg base N q sc f cdv A outer s H E) E := passes_call tkX fun _ _ _ _ z => z
theorem poX {CX : CXT} : PassesOwn (model P w) (cxOf CX P w K mg base N q sc f cdv A outer s H E).A (cxOf CX P w K mg base N q sc f cdv A outer s H E).env (cxOf CX P w K mg base N q sc f cdv A outer s H E).xe := passes_of rfl
theorem p0X {X : Cx} {E : XK} : Passes CX0 X E := fun _ _ _ _ _ _ _ h => h.elim
/-- a def of the text as the top leaves it: no defaults -/
structure Def (K : PySem.W.Frag) (mg : Str → Option Value) (x : Str) (st : Stmt) (ps : List Str) : Prop where
  ex : ∃ fd : FuncData, FunD K x x (defArgs st) (defBody st) (defScope st) [] [] (He.ga K x) fd ∧ Binds K fd ps []
  g : mg x = some (.ref (He.ga K x))
theorem Def.cal {CX : CXT} {x : Str} {st : Stmt} {N ps : List Str} {k : Nat} {sp : Sp} (D : Def K mg x st ps) (S : FnScope N ps (defScope st)) (len : ∀ vs H Q E, sp vs H Q E → vs.length = ps.length)
    (hbody : ∀ (cdv : Value) (A : Around) (outer : List Env) (s : Shared) (H : Hp) (vs : List V) (Q : VK) (E : XK), Room k (A.deeper (envOfC x (defScope st) s.heap.objs.size (He.ga K x) cdv)) → sp vs H Q E →
      ∃ t, PSs (cxOf CX P w K mg base N x (defScope st) (He.ga K x) cdv A outer s H E) (defBody st) t ∧ t { nx := fun _ H' => Q .non H', rt := Q } (start N vs) H) : Cal P w K mg base CX (k + 1) x ps sp := by
  obtain ⟨⟨fd, F, b⟩, g⟩ := D
  exact ⟨⟨fd, F.ok S len hbody, b⟩, g, F.kp⟩
/-- the __init__ of the class x -/
def DefI (K : PySem.W.Frag) (x q : Str) (st : Stmt) (ps : List Str) : Prop := ∃ fd : FuncData, FunD K "__init__" q (defArgs st) (defBody st) (defScope st) [] [] (He.ma K (He.ga K x) "__init__") fd ∧ Binds K fd ps []
theorem DefI.ok {CX : CXT} {x q : Str} {st : Stmt} {N ps : List Str} {k : Nat} {sp : Sp} (D : DefI K x q st ps) (S : FnScope N ps (defScope st)) (len : ∀ vs H Q E, sp vs H Q E → vs.length = ps.length)
    (hbody : ∀ (cdv : Value) (A : Around) (outer : List Env) (s : Shared) (H : Hp) (vs : List V) (Q : VK) (E : XK), Room k (A.deeper (envOfC q (defScope st) s.heap.objs.size (He.ma K (He.ga K x) "__init__") cdv)) → sp vs H Q E →
      ∃ t, PSs (cxOf CX P w K mg base N q (defScope st) (He.ma K (He.ga K x) "__init__") cdv A outer s H E) (defBody st) t ∧ t { nx := fun _ H' => Q .non H', rt := Q } (start N vs) H) :
    ∃ fd : FuncData, FnOk P w K mg base CX (k + 1) (He.ma K (He.ga K x) "__init__") fd ps sp ∧ Binds K fd ps [] := by
  obtain ⟨fd, F, b⟩ := D
  exact ⟨fd, F.ok S len hbody, b⟩
end
end Hc

/-! ### H. the head's facts, the row's end -/
namespace Hc
open PySem PySem.Spec PyProof.Rows L2
abbrev AlY : Type := He.AlT × Bool
open PySem.W (WData Codec OpenSpec Well WellAll ReadsW ReadsAllW)
def obsY (fa : List He.Fa) (fn : List He.DefD) (ts : List He.Tab) (ex : PySem.W.Frag → Bool) (K : PySem.W.Frag) : AlY := (He.obsT fa fn ts K, ex K)
def obsYG (n : Nat) (fa : List He.Fa) (fn : List He.DefD) (ts : List He.Tab) (ex : PySem.W.Frag → Bool) (g : Addr → Option Obj) : AlY := obsY fa fn ts ex (He.frG g (He.asD g n))
def valY (fn : List He.DefD) (ts : List He.Tab) (w : World) : AlY := (He.valT fn ts w, true)
def hookY (n : Nat) (fa : List He.Fa) (fn : List He.DefD) (ts : List He.Tab) (ex : PySem.W.Frag → Bool) : PySem.W.Hook where
  α := AlY
  obs := fun s => obsYG n fa fn ts ex s.heap.get?
  val := fun w => valY fn ts w
  says := fun w h => ∃ K : PySem.W.Frag, K.In h ∧ He.SaysT fa fn ts w K ∧ ex K = true
  of := fun _ _ e => ⟨_, He.frG_in, congrArg (fun z : AlY => z.1) e, congrArg (fun z : AlY => z.2) e⟩
  keeps := fun _ _ _ ⟨K, hK, c⟩ k => ⟨K, PySem.W.Frag.In.keeps hK k, c⟩
theorem obsYG_eq {n : Nat} {fa : List He.Fa} {fn : List He.DefD} {ts : List He.Tab} {ex : PySem.W.Frag → Bool} {g : Addr → Option Obj} {s : Shared} (h : ∀ a, g a = s.heap.get? a) : obsYG n fa fn ts ex g = (hookY n fa fn ts ex).obs s := by
  have e : g = s.heap.get? := funext h
  rw [e] <;> rfl
theorem fact_of {fa : List He.Fa} {fn : List He.DefD} {K : PySem.W.Frag} (c : He.SaysD fa fn K) (i : Nat) {f : He.Fa} (h : fa[i]? = some f) : f.ok K = true := c.fact i h
/-- the goal that the head leaves, where the head's facts bring the written part -/
theorem walk_specE {r : PySem.W.OpenSpec} {k : Nat} {q : Program} {loose : List Str} {XP : (Str → Option Value) → Heap → Prop} {YP : World → Heap → Prop} {d : DefRec} {CX : CXT} {ps : List Str} {sp : PySem.W.Frag → Sp}
    (hwell : r.wellSaid = true) (hdf : d.params.defaults = []) (hlen : r.args.length = ps.length) (hr : Room k callerA)
    (F : ∀ (w : World) (mg : Str → Option Value) (fa : Addr) (h : Heap), YP w h → h.Ns mainGlobals mg → mg d.name = some (.ref fa) →
      ∃ K : PySem.W.Frag, K.In h ∧ ∃ fd : FuncData, (∀ (s : Shared) (us : List Value), us.length = ps.length → BindsTo s fd ⟨us, []⟩ (ps.zip us)) ∧
        ∀ base : Heap, K.In base → base.Ns mainGlobals mg → FnOk r.prog w K mg base CX k fa fd ps (sp K))
    (hsp : ∀ (K : PySem.W.Frag) (H : Hp) (xs : List V) (a : PySem.W.Codec.denoteAll r.args), OnlyF H → PySem.W.Codec.withinAll r.args a = true → PySem.W.Codec.app r.args r.asked a = true → DwAll K H xs (PySem.W.Codec.encAll r.args a) →
      sp K xs H (fun v H' => Dw K H' v (r.ret.enc (PySem.W.Codec.app r.args r.f a))) fun _ _ _ => False)
    (hCX : ∀ (H : Hp) (s : Shared) (e : Value) (s' : Shared), CX [] H s (fun _ _ _ => False) e s' → False) :
    PySem.W.WalkOS q loose XP YP r d [] (fun f vs => PySem.call f vs) := by
  intro w s₀ s₁ mg mb G Y fa o pm cd doc dV kV ho hd hcd hD hmg hg args vals as hpre hlay hrd hwl hlo
  obtain ⟨a, e1, e2⟩ := PySem.W.os_pre_some hpre
  obtain ⟨e3, hwi⟩ := PySem.W.Codec.encAll_of_decAll r.args args a e1
  subst e3
  obtain ⟨K, KX, fd, hb, hF⟩ := F w mg fa _ Y G.T.g hmg
  refine PySem.W.enter_call (codeAny_mono (spec_call (R := []) (cl := classAt s₀.heap) (d0 := r.ret.enc (PySem.W.Codec.app r.args r.f a)) KX G.T.g G.T.b G.T.builtins G.T.nolimit hg hwl (pl_encAll _ _) (layable_weight hlay) hr hF hb (by rw [encAll_len]; exact hlen)
    (fun H xs hO hS => hsp K H xs a hO hwi e2 hS) fun H e s' => hCX H s₁ e s') fun r' s' hq => ?_)
  obtain ⟨u, as', rfl, h1, h2, h3, h4⟩ := hq
  exact ⟨.inl ⟨u, _, as', rfl, fun _ => rfl, h1, (PySem.W.OpenSpec.post_iff hwell hwi _ _).mpr rfl, fun z => Bool.noConfusion (show false = true from z)⟩, h2, h3, h4⟩
end Hc

/-! ### C. coats' bytes read: what stands in the heap, the promises -/
namespace Hc
open PySem PySem.Spec PyProof.Rows L2
def bv (b : UInt8) : V := .int (b.toNat : Int)
def srcF (c : Addr) (k : Nat) : List (Str × V) := [("some", .ref c), ("at", .int k)]
/-- a reader of the class at C stands at s: the bytes bs, read up to k -/
structure Src (K : PySem.W.Frag) (C : Addr) (H : Hp) (s dx c : Addr) (bs : B) (k : Nat) : Prop where
  ob : H s = some (.ins C dx (srcF c k))
  sq : SqL K H c (bs.map bv)
  le : k ≤ bs.length
  big : bs.length ≤ 5000
theorem Src.bt {K : PySem.W.Frag} {C : Addr} {H H' : Hp} {s dx c : Addr} {bs : B} {k k' : Nat} (S : Src K C H s dx c bs k) (e : Bt s H H') (ob : H' s = some (.ins C dx (srcF c k'))) (le : k' ≤ bs.length) : Src K C H' s dx c bs k' :=
  ⟨ob, e.seq S.ob S.sq, le, S.big⟩
/-- a reader's def: the error told, or the value that stands for what was read, new in the heap -/
structure RdP {α : Type} (K : PySem.W.Frag) (C N : Addr) (rd : Nat → B → Except Nat (α × Nat × B)) (Is : Hp → V → α → Prop) (H : Hp) (s dx c : Addr) (bs : B) (k : Nat) (Q : VK) (E : XK) : Prop where
  err : ∀ e, rd k (bs.drop k) = .error e → ∀ (d : Addr) H', Bt s H H' → H' d = some (.xd [("place", .int (e : Nat))]) → E (.ref N) (some d) H'
  ok : ∀ a p', rd k (bs.drop k) = .ok (a, p', bs.drop p') → ∀ v H', Bt s H H' → Src K C H' s dx c bs p' → Is (Dn H H') v a → Q v H'
/-- its arguments: the reader, then those of ws i; pre i: what else stands in the heap -/
def spRd {ι α : Type} (K : PySem.W.Frag) (ws : ι → List V) (pre : ι → Hp → Prop) (rd : ι → Nat → B → Except Nat (α × Nat × B)) (Is : Hp → V → α → Prop) : Sp := fun vs H Q E => ∃ (i : ι) (s dx c : Addr) (bs : B) (k : Nat), vs = .ref s :: ws i ∧ pre i H ∧ Src K (He.ga K "Bytes") H s dx c bs k ∧
  RdP K (He.ga K "Bytes") (He.ga K "NoCoat") (rd i) Is H s dx c bs k Q E
def IsInt : Hp → V → Nat → Prop := fun _ v n => v = .int (n : Int)
/-- read_byte -/
abbrev spByte (K : PySem.W.Frag) : Sp := spRd (ι := Nat × Nat) K (fun i => [.int (i.1 : Int), .int (i.2 : Int)]) (fun _ _ => True) (fun i => Sh.numAt i.1 i.2 Sh.ANY) IsInt
/-- the promise of an own error's __init__(self, place) -/
def spErr1 (K : PySem.W.Frag) (x : Str) : Sp := fun vs H Q _ => ∃ (a : Addr) (v : V), vs = [.ref a, v] ∧ H a = some (exo a (He.ga K x) none) ∧
  ∀ dx, H dx = none → dx ≠ a → Q .non (upd (upd H dx (exd dx [("place", v)])) a (exo a (He.ga K x) (some dx)))
theorem raise1 {K : PySem.W.Frag} {x : Str} {H1 : Hp} {v : V} {W : XK} (k : ∀ (d : Addr) H', Same H1 H' → H1 d = none → H' d = some (.xd [("place", v)]) → W (.ref (He.ga K x)) (some d) H') :
    (fun (vs : List V) (H1 : Hp) => vs.length ≤ 1000 ∧ ∀ a, H1 a = none → spErr1 K x (.ref a :: (vs ++ [])) (upd H1 a (exo a (He.ga K x) none))
      (fun v H2 => v = .non ∧ ∃ (d : Addr) (fs : List (Str × V)), H2 a = some (exo a (He.ga K x) (some d)) ∧ H2 d = some (exd d fs) ∧ H1 d = none ∧ W (.ref (He.ga K x)) (some d) (upd (del H2 a) d (.xd fs))) (fun _ _ _ => False)) [v] H1 := by
  refine ⟨by show 1 ≤ 1000; decide, fun a ha => ⟨a, v, rfl, upd_same, fun dx hd ne => ⟨rfl, dx, [("place", v)], upd_same, ?_, ?_, ?_⟩⟩⟩
  · rw [upd_ne ne, upd_same]
  · rw [upd_ne ne] at hd
    exact hd
  · have hd1 : H1 dx = none := by
      rw [upd_ne ne] at hd
      exact hd
    refine k dx _ (fun b o q => ?_) hd1 upd_same
    have nb : b ≠ dx := ne_of_none q hd1
    have na : b ≠ a := ne_of_none q ha
    rw [upd_ne nb, del_ne na, upd_ne na, upd_ne nb, upd_ne na]
    exact q
theorem atI_nat {α : Type} {xs : List α} {j : Nat} {x : α} (h : xs[j]? = some x) : atI xs (j : Int) = some x := by
  unfold atI ixN
  have hj : j < xs.length := (List.getElem?_eq_some_iff.mp h).1
  rw [if_pos (by omega), if_pos (by omega)]
  simpa using h
theorem iteB {c : Bool} {A B : Prop} (h1 : c = true → A) (h2 : c = false → B) : if c = true then A else B := by
  cases c with
  | true => exact h1 rfl
  | false => exact h2 rfl
end Hc
namespace Hc
open PySem PySem.Spec PyProof.Rows L2
theorem srcF_put {c : Addr} {k j : Nat} : putF "at" (.int ((k : Int) + (j : Int))) (srcF c k) = srcF c (k + j) := by
  have e : ((k : Int) + (j : Int)) = ((k + j : Nat) : Int) := by omega
  rw [e] <;> rfl
theorem num_ok {lo hi x p : Nat} {b : UInt8} {r : B} (h1 : lo ≤ b.toNat) (h2 : b.toNat ≤ hi) (h3 : b.toNat ≠ x) : Sh.numAt lo hi x p (b :: r) = .ok (b.toNat, p + 1, r) := by
  show (if b.toNat < lo ∨ hi < b.toNat ∨ b.toNat = x then _ else _) = _
  rw [if_neg (by omega)]
theorem num_no {lo hi x p : Nat} {b : UInt8} {r : B} (h : b.toNat < lo ∨ hi < b.toNat ∨ b.toNat = x) : Sh.numAt lo hi x p (b :: r) = .error p := by
  show (if b.toNat < lo ∨ hi < b.toNat ∨ b.toNat = x then _ else _) = _
  rw [if_pos h]
end Hc
namespace Hc
open PySem PySem.Spec PyProof.Rows L2
theorem Src.put {K : PySem.W.Frag} {C : Addr} {H : Hp} {s dx c : Addr} {bs : B} {k j : Nat} {fs : List (Str × V)} (S : Src K C H s dx c bs k) (e : fs = srcF c j) (le : j ≤ bs.length) : Src K C (upd H s (.ins C dx fs)) s dx c bs j :=
  S.bt Bt.refl.put (by rw [e]; exact upd_same) le
end Hc
namespace Hc
open PySem PySem.Spec PyProof.Rows L2
/-! #### what a byte's reading says -/
theorem num_is {lo hi x p : Nat} {b : B} {n p' : Nat} {r : B} (h : Sh.numAt lo hi x p b = .ok (n, p', r)) : p' = p + 1 ∧ lo ≤ n ∧ n ≤ hi ∧ n ≠ x ∧ n < 256 := by
  cases b with
  | nil => cases h
  | cons c t =>
    by_cases q : c.toNat < lo ∨ hi < c.toNat ∨ c.toNat = x
    · rw [num_no q] at h
      cases h
    · rw [num_ok (by omega) (by omega) (by omega)] at h
      cases h
      have := c.toNat_lt
      exact ⟨rfl, by omega, by omega, by omega, by omega⟩
theorem num_err {lo hi x p : Nat} {b : B} {e : Nat} (h : Sh.numAt lo hi x p b = .error e) : e = p := by
  cases b with
  | nil =>
    cases h
    rfl
  | cons c t =>
    by_cases q : c.toNat < lo ∨ hi < c.toNat ∨ c.toNat = x
    · rw [num_no q] at h
      cases h
      rfl
    · rw [num_ok (by omega) (by omega) (by omega)] at h
      cases h
/-- the same, one number left out -/
theorem num_but {lo hi x p : Nat} {b : B} {n p' : Nat} {r : B} (h : Sh.numAt lo hi Sh.ANY p b = .ok (n, p', r)) : Sh.numAt lo hi x p b = if n = x then .error p else .ok (n, p', r) := by
  cases b with
  | nil => cases h
  | cons c t =>
    by_cases q : c.toNat < lo ∨ hi < c.toNat ∨ c.toNat = Sh.ANY
    · rw [num_no q] at h
      cases h
    · rw [num_ok (by omega) (by omega) (by omega)] at h
      cases h
      by_cases q2 : c.toNat = x
      · rw [if_pos q2, num_no (.inr (.inr q2))]
      · rw [if_neg q2, num_ok (by omega) (by omega) q2]
theorem num_but_err {lo hi x p : Nat} {b : B} {e : Nat} (h : Sh.numAt lo hi Sh.ANY p b = .error e) (hi255 : hi < 256) : Sh.numAt lo hi x p b = .error e := by
  have ep := num_err h
  subst ep
  cases b with
  | nil => exact h
  | cons c t =>
    by_cases q : c.toNat < lo ∨ hi < c.toNat ∨ c.toNat = x
    · exact num_no q
    · have := c.toNat_lt
      rw [num_ok (by omega) (by omega) (by unfold Sh.ANY; omega)] at h
      cases h
/-! #### what stands for a field, a layer, arms, a coat -/
open Sh ShMarsh
def iv (n : Nat) : V := .int (n : Int)
def fieldV : Field → List V
  | .plain t => [iv 0, iv t]
  | .parted d l a b => [iv 1, iv d, iv l, iv a, iv b]
  | .varied v n l a b => [iv 2, iv v, iv n, iv l, iv a, iv b]
def IsTwo : Hp → V → Nat × Nat → Prop := fun D v x => ∃ p, v = .ref p ∧ D p = some (.tup [iv x.1, iv x.2])
def IsField : Hp → V → Field → Prop := fun D v f => ∃ p, v = .ref p ∧ D p = some (.tup (fieldV f))
def IsFill : Hp → V → Fill → Prop
  | D, v, .solid f => IsField D v f
  | _, v, .counter => v = .non
def layF (k : Nat) (n : Addr) (fv : V) : List (Str × V) := [("kind", iv k), ("numbers", .ref n), ("fill", fv)]
def layK : Layer → Nat
  | .ord _ _ _ => 0
  | .group _ _ _ _ _ => 1
def layN : Layer → List V
  | .ord o l _ => [iv o, iv l]
  | .group c n m s _ => [iv c, iv n, iv m, iv s]
def IsLayer (K : PySem.W.Frag) : Hp → V → Layer → Prop := fun D v l => ∃ (a dx n : Addr) (fv : V), v = .ref a ∧ D a = some (.ins (He.ga K "Layer") dx (layF (layK l) n fv)) ∧ D n = some (.lst (layN l)) ∧ IsFill D fv l.fill
def armF (fv : V) (l : Addr) : List (Str × V) := [("field", fv), ("layers", .ref l)]
def IsArms (K : PySem.W.Frag) : Hp → V → Arms → Prop := fun D v a => ∃ (x dx l : Addr) (fv : V) (vs : List V), v = .ref x ∧ D x = some (.ins (He.ga K "Arms") dx (armF fv l)) ∧ IsField D fv a.field ∧ D l = some (.lst vs) ∧ Paired (IsLayer K D) vs a.layers
def IsMark : Hp → V → Nat × Nat → Prop := IsTwo
def IsCant (K : PySem.W.Frag) : Hp → V → Option Arms → Prop
  | D, v, some a => IsArms K D v a
  | _, v, none => v = .non
def coaF (k : Nat) (av cv : V) (ml cl : Addr) : List (Str × V) := [("kind", iv k), ("arms", av), ("canton", cv), ("marks", .ref ml), ("coats", .ref cl)]
def IsMarked (K : PySem.W.Frag) : Hp → V → Marked → Prop := fun D v m => ∃ (x dx ml cl : Addr) (av cv : V) (ms : List V), v = .ref x ∧ D x = some (.ins (He.ga K "Coat") dx (coaF 0 av cv ml cl)) ∧ IsArms K D av m.arms ∧ IsCant K D cv m.canton ∧ D ml = some (.lst ms) ∧ Paired (IsMark D) ms m.marks ∧ D cl = some (.lst [])
mutual
def IsCoat (K : PySem.W.Frag) (D : Hp) : V → Coat → Prop
  | v, .one m => IsMarked K D v m
  | v, .quarters l => ∃ (x dx ml cl : Addr) (vs : List V), v = .ref x ∧ D x = some (.ins (He.ga K "Coat") dx (coaF 1 .non .non ml cl)) ∧ D ml = some (.lst []) ∧ D cl = some (.lst vs) ∧ IsCoats K D vs l
  | v, .impaled a b => ∃ (x dx ml cl : Addr) (va vb : V), v = .ref x ∧ D x = some (.ins (He.ga K "Coat") dx (coaF 2 .non .non ml cl)) ∧ D ml = some (.lst []) ∧ D cl = some (.lst [va, vb]) ∧ IsCoat K D va a ∧ IsCoat K D vb b
  | v, .pretence a b => ∃ (x dx ml cl : Addr) (va vb : V), v = .ref x ∧ D x = some (.ins (He.ga K "Coat") dx (coaF 3 .non .non ml cl)) ∧ D ml = some (.lst []) ∧ D cl = some (.lst [va, vb]) ∧ IsCoat K D va a ∧ IsCoat K D vb b
def IsCoats (K : PySem.W.Frag) (D : Hp) : List V → List Coat → Prop
  | [], [] => True
  | v :: vs, c :: cs => IsCoat K D v c ∧ IsCoats K D vs cs
  | _, _ => False
end
theorem Paired.up {α : Type} {F G : V → α → Prop} {xs : List V} {ys : List α} (h : Paired F xs ys) (m : ∀ v a, F v a → G v a) : Paired G xs ys := L2.Paired.mapP h m
theorem Paired.snoc {α : Type} {F : V → α → Prop} : ∀ {xs : List V} {ys : List α} {x : V} {y : α}, Paired F xs ys → F x y → Paired F (xs ++ [x]) (ys ++ [y])
  | _, _, _, _, .nil, h => .cons h .nil
  | _, _, _, _, .cons r t, h => .cons r (Paired.snoc t h)
section
variable {K : PySem.W.Frag} {D D' : Hp} (e : Same D D')
include e
theorem IsTwo.up {v : V} {x : Nat × Nat} (h : IsTwo D v x) : IsTwo D' v x := let ⟨p, h1, h2⟩ := h; ⟨p, h1, e _ _ h2⟩
theorem IsField.up {v : V} {x : Field} (h : IsField D v x) : IsField D' v x := let ⟨p, h1, h2⟩ := h; ⟨p, h1, e _ _ h2⟩
theorem IsFill.up {v : V} : ∀ {x : Fill}, IsFill D v x → IsFill D' v x
  | .solid _, h => IsField.up e h
  | .counter, h => h
theorem IsLayer.up {v : V} {x : Layer} (h : IsLayer K D v x) : IsLayer K D' v x := let ⟨a, dx, n, fv, h1, h2, h3, h4⟩ := h; ⟨a, dx, n, fv, h1, e _ _ h2, e _ _ h3, h4.up e⟩
theorem IsArms.up {v : V} {x : Arms} (h : IsArms K D v x) : IsArms K D' v x := let ⟨a, dx, l, fv, vs, h1, h2, h3, h4, h5⟩ := h; ⟨a, dx, l, fv, vs, h1, e _ _ h2, h3.up e, e _ _ h4, Paired.up h5 fun _ _ z => IsLayer.up e z⟩
theorem IsCant.up {v : V} : ∀ {x : Option Arms}, IsCant K D v x → IsCant K D' v x
  | some _, h => IsArms.up e h
  | none, h => h
theorem IsMarked.up {v : V} {x : Marked} (h : IsMarked K D v x) : IsMarked K D' v x :=
  let ⟨x, dx, ml, cl, av, cv, ms, h1, h2, h3, h4, h5, h6, h7⟩ := h
  ⟨x, dx, ml, cl, av, cv, ms, h1, e _ _ h2, h3.up e, h4.up e, e _ _ h5, Paired.up h6 fun _ _ z => IsTwo.up e z, e _ _ h7⟩
mutual
theorem IsCoat.up : ∀ {v : V} {x : Coat}, IsCoat K D v x → IsCoat K D' v x
  | _, .one _, h => IsMarked.up e (by unfold IsCoat at h; exact h) |> fun z => by unfold IsCoat; exact z
  | _, .quarters _, h => by
    unfold IsCoat at h ⊢
    obtain ⟨x, dx, ml, cl, vs, h1, h2, h3, h4, h5⟩ := h
    exact ⟨x, dx, ml, cl, vs, h1, e _ _ h2, e _ _ h3, e _ _ h4, IsCoats.up h5⟩
  | _, .impaled _ _, h => by
    unfold IsCoat at h ⊢
    obtain ⟨x, dx, ml, cl, va, vb, h1, h2, h3, h4, h5, h6⟩ := h
    exact ⟨x, dx, ml, cl, va, vb, h1, e _ _ h2, e _ _ h3, e _ _ h4, IsCoat.up h5, IsCoat.up h6⟩
  | _, .pretence _ _, h => by
    unfold IsCoat at h ⊢
    obtain ⟨x, dx, ml, cl, va, vb, h1, h2, h3, h4, h5, h6⟩ := h
    exact ⟨x, dx, ml, cl, va, vb, h1, e _ _ h2, e _ _ h3, e _ _ h4, IsCoat.up h5, IsCoat.up h6⟩
theorem IsCoats.up : ∀ {vs : List V} {xs : List Coat}, IsCoats K D vs xs → IsCoats K D' vs xs
  | [], [], _ => by unfold IsCoats; trivial
  | _ :: _, _ :: _, h => by
    unfold IsCoats at h ⊢
    exact ⟨IsCoat.up h.1, IsCoats.up h.2⟩
  | [], _ :: _, h => by unfold IsCoats at h; exact h.elim
  | _ :: _, [], h => by unfold IsCoats at h; exact h.elim
end
end
end Hc

namespace Hc
open PySem PySem.Spec PyProof.Rows L2
open Sh ShMarsh
/-! #### the promises of the __init__s, and what a maker of an object gets -/
/-- behind the making and an __init__ that changes the new object alone -/
theorem Same.made2 {H H' : Hp} {x dx : Addr} {o u : HO} (nx : H x = none) (nd : H dx = none) (e : Bt x (upd (upd H dx o) x u) H') : Same H H' := fun b q h => by
  have n1 : b ≠ x := ne_of_none h nx
  have n2 : b ≠ dx := ne_of_none h nd
  exact e b q n1 (by rw [upd_ne n1, upd_ne n2]; exact h)
def spI_Bytes (K : PySem.W.Frag) (C : Str) : Sp := fun vs H Q _ => ∃ (x dx c : Addr), vs = [.ref x, .ref c] ∧ H x = some (.ins (He.ga K C) dx []) ∧ ∀ H', Bt x H H' → H' x = some (.ins (He.ga K C) dx (srcF c 0)) → Q .non H'
def spI_Layer (K : PySem.W.Frag) : Sp := fun vs H Q _ => ∃ (x dx : Addr) (a b c : V), vs = [.ref x, a, b, c] ∧ H x = some (.ins (He.ga K "Layer") dx []) ∧ ∀ H', Bt x H H' → H' x = some (.ins (He.ga K "Layer") dx [("kind", a), ("numbers", b), ("fill", c)]) → Q .non H'
def spI_Arms (K : PySem.W.Frag) : Sp := fun vs H Q _ => ∃ (x dx : Addr) (f : V), vs = [.ref x, f] ∧ H x = some (.ins (He.ga K "Arms") dx []) ∧
  ∀ H' l, Bt x H H' → H l = none → H' x = some (.ins (He.ga K "Arms") dx (armF f l)) → H' l = some (.lst []) → Q .non H'
def spI_Coat (K : PySem.W.Frag) : Sp := fun vs H Q _ => ∃ (x dx : Addr) (k : Nat), vs = [.ref x, iv k] ∧ H x = some (.ins (He.ga K "Coat") dx []) ∧
  ∀ H' ml cl, Bt x H H' → H ml = none → H cl = none → ml ≠ cl → H' x = some (.ins (He.ga K "Coat") dx (coaF k .non .non ml cl)) → H' ml = some (.lst []) → H' cl = some (.lst []) → Q .non H'
section
variable {K : PySem.W.Frag} {H1 : Hp} {Q : Addr → Hp → Prop} {E : XK}
theorem mk_Bytes {C : Str} {c : Addr} (k : ∀ x dx H', H1 x = none → Same H1 H' → H' x = some (.ins (He.ga K C) dx (srcF c 0)) → Q x H') :
    ∀ x dx, H1 x = none → H1 dx = none → dx ≠ x → spI_Bytes K C (.ref x :: ([.ref c] ++ [])) (upd (upd H1 dx (.own x)) x (.ins (He.ga K C) dx [])) (fun v H2 => v = .non ∧ Q x H2) E :=
  fun x dx nx nd ne => ⟨x, dx, c, rfl, upd_same, fun H' e h => ⟨rfl, k x dx H' nx (Same.made2 nx nd e) h⟩⟩
theorem mk_Layer {a b c : V} (k : ∀ x dx H', H1 x = none → Same H1 H' → H' x = some (.ins (He.ga K "Layer") dx [("kind", a), ("numbers", b), ("fill", c)]) → Q x H') :
    ∀ x dx, H1 x = none → H1 dx = none → dx ≠ x → spI_Layer K (.ref x :: ([a, b, c] ++ [])) (upd (upd H1 dx (.own x)) x (.ins (He.ga K "Layer") dx [])) (fun v H2 => v = .non ∧ Q x H2) E :=
  fun x dx nx nd ne => ⟨x, dx, a, b, c, rfl, upd_same, fun H' e h => ⟨rfl, k x dx H' nx (Same.made2 nx nd e) h⟩⟩
theorem two_none {H : Hp} {x dx l : Addr} {o u : HO} (h : upd (upd H dx o) x u l = none) : H l = none ∧ l ≠ x ∧ l ≠ dx := by
  have n1 : l ≠ x := fun z => by
    rw [z, upd_same] at h
    cases h
  rw [upd_ne n1] at h
  have n2 : l ≠ dx := fun z => by
    rw [z, upd_same] at h
    cases h
  rw [upd_ne n2] at h
  exact ⟨h, n1, n2⟩
theorem mk_Arms {f : V} (k : ∀ x dx l H', H1 x = none → H1 l = none → Same H1 H' → H' x = some (.ins (He.ga K "Arms") dx (armF f l)) → H' l = some (.lst []) → Q x H') :
    ∀ x dx, H1 x = none → H1 dx = none → dx ≠ x → spI_Arms K (.ref x :: ([f] ++ [])) (upd (upd H1 dx (.own x)) x (.ins (He.ga K "Arms") dx [])) (fun v H2 => v = .non ∧ Q x H2) E :=
  fun x dx nx nd ne => ⟨x, dx, f, rfl, upd_same, fun H' l e nl h hl => ⟨rfl, k x dx l H' nx (two_none nl).1 (Same.made2 nx nd e) h hl⟩⟩
theorem mk_Coat {n : Nat} (k : ∀ x dx ml cl H', H1 x = none → H1 ml = none → H1 cl = none → ml ≠ cl → Same H1 H' → H' x = some (.ins (He.ga K "Coat") dx (coaF n .non .non ml cl)) → H' ml = some (.lst []) → H' cl = some (.lst []) → Q x H') :
    ∀ x dx, H1 x = none → H1 dx = none → dx ≠ x → spI_Coat K (.ref x :: ([iv n] ++ [])) (upd (upd H1 dx (.own x)) x (.ins (He.ga K "Coat") dx [])) (fun v H2 => v = .non ∧ Q x H2) E :=
  fun x dx nx nd ne => ⟨x, dx, n, rfl, upd_same, fun H' ml cl e nm nc hne h hm hc => ⟨rfl, k x dx ml cl H' nx (two_none nm).1 (two_none nc).1 hne (Same.made2 nx nd e) h hm hc⟩⟩
end
/-- args of a reader's def with a field below: the arms at ar hold the field f -/
def armsPre (K : PySem.W.Frag) : Addr × Field → Hp → Prop := fun i H => ∃ (dx ff l : Addr), H i.1 = some (.ins (He.ga K "Arms") dx (armF (.ref ff) l)) ∧ H ff = some (.tup (fieldV i.2))
theorem armsPre.bt {K : PySem.W.Frag} {i : Addr × Field} {C s dx c : Addr} {k : Nat} {H H' : Hp} (h : armsPre K i H) (hs : H s = some (.ins C dx (srcF c k))) (e : Bt s H H') : armsPre K i H' := by
  obtain ⟨dx', ff, l, h1, h2⟩ := h
  refine ⟨dx', ff, l, e _ _ (ne_of h1 hs ?_) h1, e _ _ (ne_of h2 hs (by intro z; cases z)) h2⟩
  intro z
  have q : armF (.ref ff) l = srcF c k := by injection z
  have q1 : (("field" : Str), V.ref ff) = (("some" : Str), V.ref c) := (List.cons.inj q).1
  exact absurd (show ("field" : Str) = "some" from congrArg Prod.fst q1) (by decide +kernel)
abbrev spTwo (K : PySem.W.Frag) : Sp := spRd (ι := Unit) K (fun _ => []) (fun _ _ => True) (fun _ => Sh.twoAt) IsTwo
abbrev spField (K : PySem.W.Frag) : Sp := spRd (ι := Unit) K (fun _ => []) (fun _ _ => True) (fun _ => Sh.fieldAt) IsField
abbrev spFill (K : PySem.W.Frag) : Sp := spRd (ι := Addr × Field) K (fun i => [.ref i.1]) (armsPre K) (fun i => Sh.fillAt i.2) IsFill
abbrev spLayer (K : PySem.W.Frag) : Sp := spRd (ι := Addr × Field) K (fun i => [.ref i.1]) (armsPre K) (fun i => Sh.layerAt i.2) (IsLayer K)
abbrev spArms (K : PySem.W.Frag) : Sp := spRd (ι := Unit) K (fun _ => []) (fun _ _ => True) (fun _ => armsFrom) (IsArms K)
abbrev spMarked (K : PySem.W.Frag) : Sp := spRd (ι := Unit) K (fun _ => []) (fun _ _ => True) (fun _ => markedFrom) (IsMarked K)
end Hc

namespace Hc
open PySem PySem.Spec PyProof.Rows L2
open Sh ShMarsh
/-- all but the objects at s and l is as it was -/
def Bt2 (s l : Addr) (H H' : Hp) : Prop := ∀ b o, b ≠ s → b ≠ l → H b = some o → H' b = some o
theorem Bt2.of {s l : Addr} {H H' : Hp} (e : Bt s H H') : Bt2 s l H H' := fun b o n _ h => e b o n h
theorem Bt2.trans {s l : Addr} {H H1 H2 : Hp} (a : Bt2 s l H H1) (b : Bt2 s l H1 H2) : Bt2 s l H H2 := fun c o n m h => b c o n m (a c o n m h)
theorem Bt2.put {s l : Addr} {H H' : Hp} {o : HO} (e : Bt2 s l H H') : Bt2 s l H (upd H' l o) := fun b u n m h => by
  rw [upd_ne m]
  exact e b u n m h
theorem Bt2.none {s l : Addr} {H H' : Hp} {so lo : HO} (e : Bt2 s l H H') (hs : H' s = some so) (hl : H' l = some lo) : ∀ a, H' a = Option.none → H a = Option.none := fun a h => by
  cases q : H a with
  | none => rfl
  | some o =>
    by_cases c : a = s
    · rw [c, hs] at h
      cases h
    · by_cases c2 : a = l
      · rw [c2, hl] at h
        cases h
      · rw [e a o c c2 q] at h
        cases h
/-- what is new since G stays where the objects at s and l, which G has, alone may change -/
theorem Bt2.dn {s l : Addr} {G H H' : Hp} {so lo : HO} (e : Bt2 s l H H') (hs : G s = some so) (hl : G l = some lo) : Same (Dn G H) (Dn G H') := dn_mono (fun _ h => h) fun a o n h =>
  e a o (fun z => by rw [z, hs] at n; cases n) (fun z => by rw [z, hl] at n; cases n) h
theorem Bt2.drop {s l : Addr} {G H H' : Hp} (a : Bt s G H) (nl : H l = Option.none) (e : Bt2 s l H H') : Bt s G H' := fun b o n h => e b o n (ne_of_none (a b o n h) nl) (a b o n h)
/-- all but the objects at M is as it was -/
def BtM (M : List Addr) (H H' : Hp) : Prop := ∀ b o, b ∉ M → H b = some o → H' b = some o
theorem BtM.of {M : List Addr} {s : Addr} {H H' : Hp} (e : Bt s H H') (hs : s ∈ M) : BtM M H H' := fun b o n h => e b o (fun z => n (z ▸ hs)) h
theorem BtM.same {M : List Addr} {H H' : Hp} (e : Same H H') : BtM M H H' := fun b o _ h => e b o h
theorem BtM.trans {M : List Addr} {H H1 H2 : Hp} (a : BtM M H H1) (b : BtM M H1 H2) : BtM M H H2 := fun c o n h => b c o n (a c o n h)
theorem BtM.put {M : List Addr} {l : Addr} {H H' : Hp} {o : HO} (e : BtM M H H') (hl : l ∈ M) : BtM M H (upd H' l o) := fun b u n h => by
  rw [upd_ne (fun z : b = l => n (by rw [z]; exact hl))]
  exact e b u n h
theorem BtM.new {M : List Addr} {H H' : Hp} {p : Addr} {o : HO} (e : BtM M H H') (hp : H' p = Option.none) : BtM M H (upd H' p o) := fun b u n h => by
  rw [upd_ne (ne_of_none (e b u n h) hp)]
  exact e b u n h
theorem BtM.none {M : List Addr} {H H' : Hp} (e : BtM M H H') (hM : ∀ m ∈ M, H' m ≠ Option.none) : ∀ a, H' a = Option.none → H a = Option.none := fun a h => by
  cases q : H a with
  | none => rfl
  | some o =>
    by_cases c : a ∈ M
    · exact absurd h (hM a c)
    · rw [e a o c q] at h
      cases h
theorem BtM.dn {M : List Addr} {G H H' : Hp} (e : BtM M H H') (hM : ∀ m ∈ M, G m ≠ Option.none) : Same (Dn G H) (Dn G H') := dn_mono (fun _ h => h) fun a o n h => e a o (fun z => hM a z n) h
theorem BtM.drop {M : List Addr} {s : Addr} {G H H' : Hp} (a : Bt s G H) (nl : ∀ m ∈ M, m = s ∨ H m = Option.none) (e : BtM M H H') : Bt s G H' := fun b o n h => e b o (fun z => by
  rcases nl b z with q | q
  · exact n q
  · exact ne_of_none (a b o n h) q rfl) (a b o n h)
/-- a list's reading, so far: the first ls are read, up to p; how it goes on -/
def goesOn {α : Type} (all rest : Except Nat (List α × Nat × B)) (ls : List α) : Prop := all = match rest with
  | .error e => .error e
  | .ok r => .ok (ls ++ r.1, r.2)
theorem goesOn.err {α : Type} {all rest : Except Nat (List α × Nat × B)} {ls : List α} {e : Nat} (h : goesOn all rest ls) (q : rest = .error e) : all = .error e := by
  unfold goesOn at h
  rw [h, q]
theorem goesOn.ok {α : Type} {all rest : Except Nat (List α × Nat × B)} {ls : List α} {p : Nat} {b : B} (h : goesOn all rest ls) (q : rest = .ok ([], p, b)) : all = .ok (ls, p, b) := by
  unfold goesOn at h
  rw [h, q]
  show Except.ok (ls ++ [], p, b) = _
  rw [List.append_nil]
theorem goesOn.start {α : Type} {all : Except Nat (List α × Nat × B)} : goesOn all all [] := by
  unfold goesOn
  cases all with
  | error e => rfl
  | ok r => rfl
theorem goesOn.turn {α : Type} {all rest rest' : Except Nat (List α × Nat × B)} {ls : List α} {x : α} (h : goesOn all rest ls) (q1 : ∀ e, rest' = .error e → rest = .error e) (q2 : ∀ r, rest' = .ok r → rest = .ok (x :: r.1, r.2)) : goesOn all rest' (ls ++ [x]) := by
  unfold goesOn at h ⊢
  cases e : rest' with
  | error e' => rw [h, q1 _ e]
  | ok r =>
    rw [h, q2 _ e]
    show Except.ok (ls ++ x :: r.1, r.2) = Except.ok (ls ++ [x] ++ r.1, r.2)
    rw [List.append_assoc]
    rfl
end Hc

/-! ### D. what is due, by bytes -/
namespace Hc
open PySem PySem.Spec PyProof.Rows L2
open Sh ShMarsh
def inB (ns : List Int) : Prop := ∀ n ∈ ns, 0 ≤ n ∧ n ≤ 255
def toB (ns : List Int) : B := ns.map fun n => UInt8.ofNat n.toNat
theorem toB_bv : ∀ {ns : List Int}, inB ns → ns.map V.int = (toB ns).map bv
  | [], _ => rfl
  | n :: ns, h => by
    have h1 := h n (List.mem_cons_self ..)
    have h2 : inB ns := fun m hm => h m (List.mem_cons_of_mem _ hm)
    show V.int n :: ns.map V.int = bv (UInt8.ofNat n.toNat) :: (toB ns).map bv
    rw [toB_bv h2]
    have e : ((UInt8.ofNat n.toNat).toNat : Int) = n := by
      rw [UInt8.toNat_ofNat']
      have : n.toNat % 2 ^ 8 = n.toNat := Nat.mod_eq_of_lt (by omega)
      rw [this]
      omega
    show _ = V.int ((UInt8.ofNat n.toNat).toNat : Int) :: _
    rw [e]
theorem toB_len {ns : List Int} : (toB ns).length = ns.length := by simp [toB]
theorem text_toB {ns : List Int} (h : inB ns) : CoatNeutral.text? ns = some (toB ns) := by
  unfold CoatNeutral.text?
  rw [if_pos]
  · rfl
  · unfold NeutralIO.bytes
    rw [List.all_eq_true]
    intro n hn
    have := h n hn
    simp [this.1, this.2]
theorem nat_int {n : Int} (h : 0 ≤ n) : CoatNeutral.nat? n = some n.toNat := if_pos h
/-- an answer as whole numbers -/
def told (a : ShCoats.Reply) : List Int := a.ret :: ((a.nums.map fun (n : Nat) => (n : Int)) ++ a.bytes.map fun (b : UInt8) => (b.toNat : Int))
theorem due_check {ns : List Int} (h : inB ns) : PyWqaqbh.check ns = told (ShCoats.answer (.check (toB ns))) := by
  have e : CoatNeutral.callOf [[1], ns] = some (.check (toB ns)) := by
    show Option.map ShCoats.Call.check (CoatNeutral.text? ns) = _
    rw [text_toB h]
    rfl
  unfold PyWqaqbh.check CoatNeutral.f
  rw [e]
  rfl
theorem due_count {ns : List Int} (h : inB ns) : PyWqaqbh.count ns = told (ShCoats.answer (.count (toB ns))) := by
  have e : CoatNeutral.callOf [[4], ns] = some (.count (toB ns)) := by
    show Option.map ShCoats.Call.count (CoatNeutral.text? ns) = _
    rw [text_toB h]
    rfl
  unfold PyWqaqbh.count CoatNeutral.f
  rw [e]
  rfl
theorem due_words {ns : List Int} (h : inB ns) : PyWqaqbh.words ns = told (ShCoats.answer (.words (toB ns))) := by
  have e : CoatNeutral.callOf [[5], ns] = some (.words (toB ns)) := by
    show Option.map ShCoats.Call.words (CoatNeutral.text? ns) = _
    rw [text_toB h]
    rfl
  unfold PyWqaqbh.words CoatNeutral.f
  rw [e]
  rfl
theorem due_read {ns : List Int} (h : inB ns) : PyWqaqbh.read ns = told (ShCoats.answer (.read (toB ns))) := by
  have e : CoatNeutral.callOf [[6], ns] = some (.read (toB ns)) := by
    show Option.map ShCoats.Call.read (CoatNeutral.text? ns) = _
    rw [text_toB h]
    rfl
  unfold PyWqaqbh.read CoatNeutral.f
  rw [e]
  rfl
theorem due_at {p r : Int} {ns : List Int} (hp : 0 ≤ p) (hr : 0 ≤ r) (h : inB ns) : PyWqaqbh.at_ p r ns = told (ShCoats.answer (.at_ (toB ns) p.toNat r.toNat)) := by
  have e : CoatNeutral.callOf [[2, p, r], ns] = some (.at_ (toB ns) p.toNat r.toNat) := by
    show (match CoatNeutral.text? ns, CoatNeutral.nat? p, CoatNeutral.nat? r with
      | some x, some y, some z => some (ShCoats.Call.at_ x y z)
      | _, _, _ => none) = _
    rw [text_toB h, nat_int hp, nat_int hr]
  unfold PyWqaqbh.at_ CoatNeutral.f
  rw [e]
  rfl
theorem due_part {p r : Int} {ns : List Int} (hp : 0 ≤ p) (hr : 0 ≤ r) (h : inB ns) : PyWqaqbh.part p r ns = told (ShCoats.answer (.part (toB ns) p.toNat r.toNat)) := by
  have e : CoatNeutral.callOf [[3, p, r], ns] = some (.part (toB ns) p.toNat r.toNat) := by
    show (match CoatNeutral.text? ns, CoatNeutral.nat? p, CoatNeutral.nat? r with
      | some x, some y, some z => some (ShCoats.Call.part x y z)
      | _, _, _ => none) = _
    rw [text_toB h, nat_int hp, nat_int hr]
  unfold PyWqaqbh.part CoatNeutral.f
  rw [e]
  rfl
/-- what a call answers of a coat's bytes -/
theorem told_bad {bs : B} {f : Coat → ShCoats.Reply} {e : Nat} (h : readCoat bs = .error e) : told (ShCoats.ofCoat bs f) = [-1, (e : Int)] := by
  unfold ShCoats.ofCoat
  rw [h]
  rfl
theorem told_ok {bs : B} {f : Coat → ShCoats.Reply} {c : Coat} (h : readCoat bs = .ok c) : told (ShCoats.ofCoat bs f) = told (f c) := by
  unfold ShCoats.ofCoat
  rw [h]
/-- a call with one list of bytes -/
def spMain (K : PySem.W.Frag) (f : List Int → List Int) : Sp := fun vs H Q _ => ∃ (a : Addr) (ns : List Int), vs = [.ref a] ∧ inB ns ∧ ns.length ≤ 5000 ∧ SqL K H a (ns.map V.int) ∧
  ∀ p H', H' p = some (.lst ((f ns).map V.int)) → Q (.ref p) H'
/-- with a point ahead -/
def spMain3 (K : PySem.W.Frag) (f : Int → Int → List Int → List Int) : Sp := fun vs H Q _ => ∃ (p r : Nat) (a : Addr) (ns : List Int), vs = [.int (p : Int), .int (r : Int), .ref a] ∧ p < 4294967296 ∧ r < 4294967296 ∧ inB ns ∧ ns.length ≤ 5000 ∧ SqL K H a (ns.map V.int) ∧
  ∀ q H', H' q = some (.lst ((f (p : Int) (r : Int) ns).map V.int)) → Q (.ref q) H'
end Hc

/-! ### W. what is read is well made -/
namespace Hc
open Sh ShMarsh
def WfField : Field → Prop
  | .plain t => t ≤ 8
  | .parted d l a b => d ≤ 7 ∧ l ≤ 5 ∧ a ≤ 8 ∧ b ≤ 8 ∧ a ≠ b
  | .varied v n l a b => v ≤ 6 ∧ (2 ≤ n ∧ n ≤ 24) ∧ l ≤ 5 ∧ a ≤ 8 ∧ b ≤ 8 ∧ a ≠ b
def WfFill (below : Field) : Fill → Prop
  | .solid g => WfField g
  | .counter => below.two.isSome = true
def WfLayer (below : Field) : Layer → Prop
  | .ord o l f => o ≤ 12 ∧ l ≤ 5 ∧ WfFill below f
  | .group c n m s f => c ≤ 15 ∧ (1 ≤ n ∧ n ≤ 10) ∧ m ≤ 6 ∧ (1 ≤ s ∧ s ≤ 4) ∧ WfFill below f
def WfArms (a : Arms) : Prop := WfField a.field ∧ a.layers.length ≤ 8 ∧ ∀ l ∈ a.layers, WfLayer a.field l
def WfMarked (m : Marked) : Prop := WfArms m.arms ∧ (∀ a, m.canton = some a → WfArms a) ∧ m.marks.length ≤ 60 ∧ ∀ x ∈ m.marks, x.1 ≤ 127 ∧ 1 ≤ x.2 ∧ x.2 ≤ 255
mutual
def WfCoat : Coat → Prop
  | .one m => WfMarked m
  | .quarters l => 2 ≤ l.length ∧ l.length ≤ 9 ∧ WfCoats l
  | .impaled a b => WfCoat a ∧ WfCoat b
  | .pretence a b => WfCoat a ∧ WfCoat b
def WfCoats : List Coat → Prop
  | [] => True
  | c :: l => WfCoat c ∧ WfCoats l
end
theorem wf_two {p : Nat} {b : Bytes} {x : Nat × Nat} {r : Nat × Bytes} (h : Sh.twoAt p b = .ok (x, r)) : x.1 ≤ 8 ∧ x.2 ≤ 8 ∧ x.1 ≠ x.2 := by
  unfold Sh.twoAt at h
  cases h1 : numAt 0 8 ANY p b with
  | error e => rw [h1] at h; cases h
  | ok k =>
    obtain ⟨n, p1, b1⟩ := k
    rw [h1] at h
    simp only at h
    cases h2 : numAt 0 8 n p1 b1 with
    | error e => rw [h2] at h; cases h
    | ok k2 =>
      obtain ⟨m, p2, b2⟩ := k2
      rw [h2] at h
      cases h
      have i1 := num_is h1
      have i2 := num_is h2
      exact ⟨i1.2.2.1, i2.2.2.1, fun z => i2.2.2.2.1 z.symm⟩
theorem wf_field {p : Nat} {b : Bytes} {f : Field} {r : Nat × Bytes} (h : Sh.fieldAt p b = .ok (f, r)) : WfField f := by
  unfold Sh.fieldAt at h
  cases h1 : numAt 0 2 ANY p b with
  | error e => rw [h1] at h; cases h
  | ok k =>
    obtain ⟨n, p1, b1⟩ := k
    rw [h1] at h
    simp only at h
    by_cases c0 : n = 0
    · rw [if_pos c0] at h
      cases h2 : numAt 0 8 ANY p1 b1 with
      | error e => rw [h2] at h; cases h
      | ok k2 =>
        rw [h2] at h
        cases h
        exact (num_is (n := k2.1) (p' := k2.2.1) (r := k2.2.2) h2).2.2.1
    · rw [if_neg c0] at h
      by_cases c1 : n = 1
      · rw [if_pos c1] at h
        cases h2 : numAt 0 7 ANY p1 b1 with
        | error e => rw [h2] at h; cases h
        | ok k2 =>
          rw [h2] at h
          simp only at h
          cases h3 : numAt 0 5 ANY k2.2.1 k2.2.2 with
          | error e => rw [h3] at h; cases h
          | ok k3 =>
            rw [h3] at h
            simp only at h
            cases h4 : Sh.twoAt k3.2.1 k3.2.2 with
            | error e => rw [h4] at h; cases h
            | ok t =>
              rw [h4] at h
              cases h
              have w := wf_two (x := t.1) (r := t.2) h4
              exact ⟨(num_is (n := k2.1) (p' := k2.2.1) (r := k2.2.2) h2).2.2.1, (num_is (n := k3.1) (p' := k3.2.1) (r := k3.2.2) h3).2.2.1, w.1, w.2.1, w.2.2⟩
      · rw [if_neg c1] at h
        cases h2 : numAt 0 6 ANY p1 b1 with
        | error e => rw [h2] at h; cases h
        | ok k2 =>
          rw [h2] at h
          simp only at h
          cases h3 : numAt 2 24 ANY k2.2.1 k2.2.2 with
          | error e => rw [h3] at h; cases h
          | ok k3 =>
            rw [h3] at h
            simp only at h
            cases h5 : numAt 0 (if 5 ≤ k2.1 then 0 else 5) ANY k3.2.1 k3.2.2 with
            | error e => rw [h5] at h; cases h
            | ok k5 =>
              rw [h5] at h
              simp only at h
              cases h4 : Sh.twoAt k5.2.1 k5.2.2 with
              | error e => rw [h4] at h; cases h
              | ok t =>
                rw [h4] at h
                cases h
                have w := wf_two (x := t.1) (r := t.2) h4
                have i3 := num_is (n := k3.1) (p' := k3.2.1) (r := k3.2.2) h3
                have i5 := (num_is (n := k5.1) (p' := k5.2.1) (r := k5.2.2) h5).2.2.1
                refine ⟨(num_is (n := k2.1) (p' := k2.2.1) (r := k2.2.2) h2).2.2.1, ⟨i3.2.1, i3.2.2.1⟩, ?_, w.1, w.2.1, w.2.2⟩
                split at i5 <;> omega
theorem wf_fill {below : Field} {p : Nat} {b : Bytes} {f : Fill} {r : Nat × Bytes} (h : Sh.fillAt below p b = .ok (f, r)) : WfFill below f := by
  unfold Sh.fillAt at h
  cases h1 : numAt 0 (if below.two.isSome = true then 1 else 0) ANY p b with
  | error e => rw [h1] at h; cases h
  | ok k =>
    rw [h1] at h
    simp only at h
    by_cases c : k.1 = 1
    · rw [if_pos c] at h
      cases h
      have i := (num_is (n := k.1) (p' := k.2.1) (r := k.2.2) h1).2.2.1
      show below.two.isSome = true
      cases q : below.two.isSome with
      | true => rfl
      | false =>
        rw [q] at i
        simp at i
        omega
    · rw [if_neg c] at h
      cases h2 : Sh.fieldAt k.2.1 k.2.2 with
      | error e => rw [h2] at h; cases h
      | ok g =>
        rw [h2] at h
        cases h
        exact wf_field (f := g.1) (r := g.2) h2
theorem wf_layer {below : Field} {p : Nat} {b : Bytes} {l : Layer} {r : Nat × Bytes} (h : Sh.layerAt below p b = .ok (l, r)) : WfLayer below l := by
  unfold Sh.layerAt at h
  cases h1 : numAt 0 1 ANY p b with
  | error e => rw [h1] at h; cases h
  | ok k =>
    rw [h1] at h
    simp only at h
    by_cases c : k.1 = 0
    · rw [if_pos c] at h
      cases h2 : numAt 0 12 ANY k.2.1 k.2.2 with
      | error e => rw [h2] at h; cases h
      | ok o =>
        rw [h2] at h
        simp only at h
        cases h3 : numAt 0 5 ANY o.2.1 o.2.2 with
        | error e => rw [h3] at h; cases h
        | ok q =>
          rw [h3] at h
          simp only at h
          cases h4 : Sh.fillAt below q.2.1 q.2.2 with
          | error e => rw [h4] at h; cases h
          | ok f =>
            rw [h4] at h
            cases h
            exact ⟨(num_is (n := o.1) (p' := o.2.1) (r := o.2.2) h2).2.2.1, (num_is (n := q.1) (p' := q.2.1) (r := q.2.2) h3).2.2.1, wf_fill (f := f.1) (r := f.2) h4⟩
    · rw [if_neg c] at h
      cases h2 : numAt 0 15 ANY k.2.1 k.2.2 with
      | error e => rw [h2] at h; cases h
      | ok o =>
        rw [h2] at h
        simp only at h
        cases h3 : numAt 1 10 ANY o.2.1 o.2.2 with
        | error e => rw [h3] at h; cases h
        | ok q =>
          rw [h3] at h
          simp only at h
          cases h5 : numAt 0 6 ANY q.2.1 q.2.2 with
          | error e => rw [h5] at h; cases h
          | ok m =>
            rw [h5] at h
            simp only at h
            cases h6 : numAt 1 4 ANY m.2.1 m.2.2 with
            | error e => rw [h6] at h; cases h
            | ok s =>
              rw [h6] at h
              simp only at h
              cases h4 : Sh.fillAt below s.2.1 s.2.2 with
              | error e => rw [h4] at h; cases h
              | ok f =>
                rw [h4] at h
                cases h
                have i3 := num_is (n := q.1) (p' := q.2.1) (r := q.2.2) h3
                have i6 := num_is (n := s.1) (p' := s.2.1) (r := s.2.2) h6
                exact ⟨(num_is (n := o.1) (p' := o.2.1) (r := o.2.2) h2).2.2.1, ⟨i3.2.1, i3.2.2.1⟩, (num_is (n := m.1) (p' := m.2.1) (r := m.2.2) h5).2.2.1, ⟨i6.2.1, i6.2.2.1⟩, wf_fill (f := f.1) (r := f.2) h4⟩
theorem wf_layers {below : Field} : ∀ {n p : Nat} {b : Bytes} {l : List Layer} {r : Nat × Bytes}, Sh.layersFrom below n p b = .ok (l, r) → l.length = n ∧ ∀ x ∈ l, WfLayer below x
  | 0, p, b, l, r, h => by
    cases h
    exact ⟨rfl, fun x hx => by cases hx⟩
  | n + 1, p, b, l, r, h => by
    unfold Sh.layersFrom at h
    cases h1 : Sh.layerAt below p b with
    | error e => rw [h1] at h; cases h
    | ok k =>
      rw [h1] at h
      simp only at h
      cases h2 : Sh.layersFrom below n k.2.1 k.2.2 with
      | error e => rw [h2] at h; cases h
      | ok q =>
        rw [h2] at h
        cases h
        have ih := wf_layers (l := q.1) (r := q.2) h2
        refine ⟨by simp [ih.1], fun x hx => ?_⟩
        rcases List.mem_cons.mp hx with e | hx
        · rw [e]
          exact wf_layer (l := k.1) (r := k.2) h1
        · exact ih.2 x hx
theorem wf_arms {p : Nat} {b : Bytes} {a : Arms} {r : Nat × Bytes} (h : armsFrom p b = .ok (a, r)) : WfArms a := by
  unfold armsFrom at h
  cases h1 : Sh.fieldAt p b with
  | error e => rw [h1] at h; cases h
  | ok f =>
    rw [h1] at h
    simp only at h
    cases h2 : numAt 0 MOST ANY f.2.1 f.2.2 with
    | error e => rw [h2] at h; cases h
    | ok n =>
      rw [h2] at h
      simp only at h
      cases h3 : Sh.layersFrom f.1 n.1 n.2.1 n.2.2 with
      | error e => rw [h3] at h; cases h
      | ok l =>
        rw [h3] at h
        cases h
        have i := (num_is (n := n.1) (p' := n.2.1) (r := n.2.2) h2).2.2.1
        have w := wf_layers (l := l.1) (r := l.2) h3
        exact ⟨wf_field (f := f.1) (r := f.2) h1, by rw [w.1]; exact i, w.2⟩
theorem wf_marks : ∀ {n p : Nat} {b : Bytes} {l : List (Nat × Nat)} {r : Nat × Bytes}, marksFrom n p b = .ok (l, r) → l.length = n ∧ ∀ x ∈ l, x.1 ≤ 127 ∧ 1 ≤ x.2 ∧ x.2 ≤ 255
  | 0, p, b, l, r, h => by
    cases h
    exact ⟨rfl, fun x hx => by cases hx⟩
  | n + 1, p, b, l, r, h => by
    unfold marksFrom at h
    cases h1 : numAt 0 127 ANY p b with
    | error e => rw [h1] at h; cases h
    | ok g =>
      rw [h1] at h
      simp only at h
      cases h2 : numAt 1 255 ANY g.2.1 g.2.2 with
      | error e => rw [h2] at h; cases h
      | ok k =>
        rw [h2] at h
        simp only at h
        cases h3 : marksFrom n k.2.1 k.2.2 with
        | error e => rw [h3] at h; cases h
        | ok q =>
          rw [h3] at h
          cases h
          have ih := wf_marks (l := q.1) (r := q.2) h3
          refine ⟨by simp [ih.1], fun x hx => ?_⟩
          rcases List.mem_cons.mp hx with e | hx
          · rw [e]
            have i2 := num_is (n := k.1) (p' := k.2.1) (r := k.2.2) h2
            exact ⟨(num_is (n := g.1) (p' := g.2.1) (r := g.2.2) h1).2.2.1, i2.2.1, i2.2.2.1⟩
          · exact ih.2 x hx
theorem wf_marked {p : Nat} {b : Bytes} {m : Marked} {r : Nat × Bytes} (h : markedFrom p b = .ok (m, r)) : WfMarked m := by
  unfold markedFrom at h
  cases h1 : armsFrom p b with
  | error e => rw [h1] at h; cases h
  | ok a =>
    rw [h1] at h
    simp only at h
    cases h2 : numAt 0 1 ANY a.2.1 a.2.2 with
    | error e => rw [h2] at h; cases h
    | ok k =>
      rw [h2] at h
      simp only at h
      have key : ∀ (c : Option Arms) (q : Nat × Bytes), (∀ x, c = some x → WfArms x) → (match numAt 0 MARKS ANY q.1 q.2 with
          | .error e => Except.error e
          | .ok n => match marksFrom n.1 n.2.1 n.2.2 with
            | .error e => .error e
            | .ok m => .ok ((⟨a.1, c, m.1⟩ : Marked), m.2)) = .ok (m, r) → WfMarked m := by
        intro c q hc h
        cases h3 : numAt 0 MARKS ANY q.1 q.2 with
        | error e => rw [h3] at h; cases h
        | ok n =>
          rw [h3] at h
          simp only at h
          cases h4 : marksFrom n.1 n.2.1 n.2.2 with
          | error e => rw [h4] at h; cases h
          | ok ms =>
            rw [h4] at h
            cases h
            have i := (num_is (n := n.1) (p' := n.2.1) (r := n.2.2) h3).2.2.1
            have w := wf_marks (l := ms.1) (r := ms.2) h4
            exact ⟨wf_arms (a := a.1) (r := a.2) h1, hc, by rw [w.1]; exact i, w.2⟩
      by_cases c : k.1 = 0
      · rw [if_pos c] at h
        exact key none k.2 (fun x hx => by cases hx) h
      · rw [if_neg c] at h
        cases h5 : armsFrom k.2.1 k.2.2 with
        | error e => rw [h5] at h; cases h
        | ok a2 =>
          rw [h5] at h
          exact key (some a2.1) a2.2 (fun x hx => by cases hx; exact wf_arms (a := a2.1) (r := a2.2) h5) h
theorem wf_several {one : Nat → Bytes → Except Nat (Coat × Nat × Bytes)} {d : Nat} (ho : ∀ p b c r, one p b = .ok (c, r) → WfCoat c ∧ c.deep ≤ d) : ∀ {n p : Nat} {b : Bytes} {l : List Coat} {r : Nat × Bytes}, several one n p b = .ok (l, r) → l.length = n ∧ WfCoats l ∧ deepest l ≤ d
  | 0, p, b, l, r, h => by
    cases h
    exact ⟨rfl, by unfold WfCoats; trivial, by unfold deepest; omega⟩
  | n + 1, p, b, l, r, h => by
    unfold several at h
    cases h1 : one p b with
    | error e => rw [h1] at h; cases h
    | ok x =>
      rw [h1] at h
      simp only at h
      cases h2 : several one n x.2.1 x.2.2 with
      | error e => rw [h2] at h; cases h
      | ok q =>
        rw [h2] at h
        cases h
        have ih := wf_several ho (l := q.1) (r := q.2) h2
        have i := ho p b x.1 x.2 h1
        refine ⟨by simp [ih.1], ?_, ?_⟩
        · unfold WfCoats
          exact ⟨i.1, ih.2.1⟩
        · unfold deepest
          have := i.2
          have := ih.2.2
          omega
theorem wf_coatFrom : ∀ {d p : Nat} {b : Bytes} {c : Coat} {r : Nat × Bytes}, coatFrom d p b = .ok (c, r) → WfCoat c ∧ c.deep ≤ d
  | 0, p, b, c, r, h => by cases h
  | d + 1, p, b, c, r, h => by
    have ih : ∀ p b c r, coatFrom d p b = .ok (c, r) → WfCoat c ∧ c.deep ≤ d := fun p b c r h => wf_coatFrom h
    unfold coatFrom at h
    cases h1 : numAt 0 (if d = 0 then 0 else 3) ANY p b with
    | error e => rw [h1] at h; cases h
    | ok k =>
      rw [h1] at h
      simp only at h
      by_cases c0 : k.1 = 0
      · rw [if_pos c0] at h
        cases h2 : markedFrom k.2.1 k.2.2 with
        | error e => rw [h2] at h; cases h
        | ok m =>
          rw [h2] at h
          cases h
          refine ⟨?_, ?_⟩
          · unfold WfCoat
            exact wf_marked (m := m.1) (r := m.2) h2
          · unfold Coat.deep
            omega
      · rw [if_neg c0] at h
        by_cases c1 : k.1 = 1
        · rw [if_pos c1] at h
          cases h2 : numAt 2 QUARTERS ANY k.2.1 k.2.2 with
          | error e => rw [h2] at h; cases h
          | ok n =>
            rw [h2] at h
            simp only at h
            cases h3 : several (coatFrom d) n.1 n.2.1 n.2.2 with
            | error e => rw [h3] at h; cases h
            | ok l =>
              rw [h3] at h
              cases h
              have i := num_is (n := n.1) (p' := n.2.1) (r := n.2.2) h2
              have w := wf_several ih (l := l.1) (r := l.2) h3
              refine ⟨?_, ?_⟩
              · unfold WfCoat
                exact ⟨by rw [w.1]; exact i.2.1, by rw [w.1]; exact i.2.2.1, w.2.1⟩
              · unfold Coat.deep
                have := w.2.2
                omega
        · rw [if_neg c1] at h
          cases h2 : coatFrom d k.2.1 k.2.2 with
          | error e => rw [h2] at h; cases h
          | ok x =>
            rw [h2] at h
            simp only at h
            cases h3 : coatFrom d x.2.1 x.2.2 with
            | error e => rw [h3] at h; cases h
            | ok y =>
              rw [h3] at h
              have i1 := ih _ _ x.1 x.2 h2
              have i2 := ih _ _ y.1 y.2 h3
              have m1 := i1.2
              have m2 := i2.2
              by_cases c2 : k.1 = 2
              · simp only [if_pos c2] at h
                cases h
                refine ⟨?_, ?_⟩
                · unfold WfCoat
                  exact ⟨i1.1, i2.1⟩
                · unfold Coat.deep
                  omega
              · simp only [if_neg c2] at h
                cases h
                refine ⟨?_, ?_⟩
                · unfold WfCoat
                  exact ⟨i1.1, i2.1⟩
                · unfold Coat.deep
                  omega
theorem wf_read {b : Bytes} {c : Coat} (h : readCoat b = .ok c) : WfCoat c ∧ c.deep ≤ 4 := by
  unfold readCoat at h
  cases h1 : coatFrom DEEP 0 b with
  | error e => rw [h1] at h; cases h
  | ok x =>
    rw [h1] at h
    simp only at h
    by_cases e : x.2.2 = []
    · rw [if_pos e] at h
      cases h
      exact wf_coatFrom (c := x.1) (r := x.2) h1
    · rw [if_neg e] at h
      cases h
end Hc

/-! ### E. a coat as an object: its kind, its coats -/
namespace Hc
open PySem PySem.Spec PyProof.Rows L2
open Sh ShMarsh
def subs : Coat → List Coat
  | .one _ => []
  | .quarters l => l
  | .impaled a b => [a, b]
  | .pretence a b => [a, b]
def kindN : Coat → Nat
  | .one _ => 0
  | .quarters _ => 1
  | .impaled _ _ => 2
  | .pretence _ _ => 3
theorem kind_0 {c : Coat} (h : kindN c = 0) : ∃ m, c = .one m := by
  cases c with
  | one m => exact ⟨m, rfl⟩
  | quarters l => cases h
  | impaled a b => cases h
  | pretence a b => cases h
theorem coat_open {K : PySem.W.Frag} {D : Hp} {v : V} {c : Coat} (h : IsCoat K D v c) : ∃ (x dx ml cl : Addr) (av cv : V) (ms vs : List V), v = .ref x ∧ D x = some (.ins (He.ga K "Coat") dx (coaF (kindN c) av cv ml cl)) ∧ D ml = some (.lst ms) ∧ D cl = some (.lst vs) ∧ IsCoats K D vs (subs c) := by
  cases c with
  | one m =>
    unfold IsCoat at h
    obtain ⟨x, dx, ml, cl, av, cv, ms, h1, h2, h3, h4, h5, h6, h7⟩ := h
    exact ⟨x, dx, ml, cl, av, cv, ms, [], h1, h2, h5, h7, by unfold subs IsCoats; trivial⟩
  | quarters l =>
    unfold IsCoat at h
    obtain ⟨x, dx, ml, cl, vs, h1, h2, h3, h4, h5⟩ := h
    exact ⟨x, dx, ml, cl, .non, .non, [], vs, h1, h2, h3, h4, h5⟩
  | impaled a b =>
    unfold IsCoat at h
    obtain ⟨x, dx, ml, cl, va, vb, h1, h2, h3, h4, h5, h6⟩ := h
    refine ⟨x, dx, ml, cl, .non, .non, [], [va, vb], h1, h2, h3, h4, ?_⟩
    unfold subs IsCoats
    refine ⟨h5, ?_⟩
    unfold IsCoats
    exact ⟨h6, by unfold IsCoats; trivial⟩
  | pretence a b =>
    unfold IsCoat at h
    obtain ⟨x, dx, ml, cl, va, vb, h1, h2, h3, h4, h5, h6⟩ := h
    refine ⟨x, dx, ml, cl, .non, .non, [], [va, vb], h1, h2, h3, h4, ?_⟩
    unfold subs IsCoats
    refine ⟨h5, ?_⟩
    unfold IsCoats
    exact ⟨h6, by unfold IsCoats; trivial⟩
theorem IsCoats.get {K : PySem.W.Frag} {D : Hp} : ∀ {vs : List V} {ls : List Coat} {i : Nat} {v : V}, IsCoats K D vs ls → vs[i]? = some v → ∃ c, ls[i]? = some c ∧ IsCoat K D v c
  | [], [], _, _, _, e => by simp at e
  | _ :: _, c :: _, 0, v, h, e => by
    unfold IsCoats at h
    simp at e
    subst e
    exact ⟨c, rfl, h.1⟩
  | _ :: _, _ :: _, i + 1, v, h, e => by
    unfold IsCoats at h
    exact IsCoats.get (i := i) h.2 (by simpa using e)
  | [], _ :: _, _, _, h, _ => by unfold IsCoats at h; exact h.elim
  | _ :: _, [], _, _, h, _ => by unfold IsCoats at h; exact h.elim
theorem wf_subs {c : Coat} (h : WfCoat c) : WfCoats (subs c) ∧ (subs c).length ≤ 9 := by
  cases c with
  | one m => exact ⟨by unfold subs WfCoats; trivial, by simp [subs]⟩
  | quarters l =>
    unfold WfCoat at h
    exact ⟨h.2.2, h.2.1⟩
  | impaled a b =>
    unfold WfCoat at h
    refine ⟨?_, by simp [subs]⟩
    unfold subs WfCoats
    refine ⟨h.1, ?_⟩
    unfold WfCoats
    exact ⟨h.2, by unfold WfCoats; trivial⟩
  | pretence a b =>
    unfold WfCoat at h
    refine ⟨?_, by simp [subs]⟩
    unfold subs WfCoats
    refine ⟨h.1, ?_⟩
    unfold WfCoats
    exact ⟨h.2, by unfold WfCoats; trivial⟩
theorem WfCoats.get : ∀ {ls : List Coat} {i : Nat} {c : Coat}, WfCoats ls → ls[i]? = some c → WfCoat c
  | [], _, _, _, e => by simp at e
  | x :: _, 0, c, h, e => by
    unfold WfCoats at h
    simp at e
    subst e
    exact h.1
  | _ :: _, i + 1, c, h, e => by
    unfold WfCoats at h
    exact WfCoats.get (i := i) h.2 (by simpa using e)
theorem deep_get : ∀ {ls : List Coat} {i : Nat} {c : Coat}, ls[i]? = some c → c.deep ≤ deepest ls
  | [], _, _, e => by simp at e
  | x :: l, 0, c, e => by
    simp at e
    subst e
    show x.deep ≤ max x.deep (deepest l)
    omega
  | x :: l, i + 1, c, e => by
    have := deep_get (ls := l) (i := i) (by simpa using e)
    show c.deep ≤ max x.deep (deepest l)
    omega
theorem deep_subs {c : Coat} (h : kindN c ≠ 0) : c.deep = deepest (subs c) + 1 := by
  cases c with
  | one m => exact absurd rfl h
  | quarters l => unfold Coat.deep subs; rfl
  | impaled a b =>
    unfold Coat.deep subs
    show max a.deep b.deep + 1 = max a.deep (max b.deep 0) + 1
    omega
  | pretence a b =>
    unfold Coat.deep subs
    show max a.deep b.deep + 1 = max a.deep (max b.deep 0) + 1
    omega
theorem deep_pos (c : Coat) : 1 ≤ c.deep := by cases c <;> (unfold Coat.deep; omega)
theorem parts_subs {c : Coat} (h : kindN c ≠ 0) : c.parts = partsOf (subs c) := by
  cases c with
  | one m => exact absurd rfl h
  | quarters l => unfold Coat.parts subs; rfl
  | impaled a b =>
    unfold Coat.parts subs
    show a.parts + b.parts = a.parts + (b.parts + 0)
    omega
  | pretence a b =>
    unfold Coat.parts subs
    show a.parts + b.parts = a.parts + (b.parts + 0)
    omega
theorem partsOf_sum : ∀ l : List Coat, ((partsOf l : Nat) : Int) = (l.map fun c => (c.parts : Int)).sum
  | [] => rfl
  | c :: l => by
    have := partsOf_sum l
    show ((c.parts + partsOf l : Nat) : Int) = (c.parts : Int) + (l.map fun c => (c.parts : Int)).sum
    rw [← this]
    omega
theorem deepest_le {l : List Coat} {m : Int} (h : ∀ y ∈ l.map (fun c => (c.deep : Int)), y ≤ m) (hm : 0 ≤ m) : ((deepest l : Nat) : Int) ≤ m := by
  induction l with
  | nil => exact hm
  | cons c l ih =>
    have h1 := h (c.deep : Int) (by simp)
    have h2 := ih fun y hy => h y (by simp only [List.map_cons, List.mem_cons]; exact .inr hy)
    show ((max c.deep (deepest l) : Nat) : Int) ≤ m
    omega
theorem deepest_mem {l : List Coat} {m : Int} (h : m ∈ l.map fun c => (c.deep : Int)) : m ≤ ((deepest l : Nat) : Int) := by
  induction l with
  | nil => cases h
  | cons c l ih =>
    show m ≤ ((max c.deep (deepest l) : Nat) : Int)
    simp only [List.map_cons, List.mem_cons] at h
    rcases h with h | h
    · omega
    · have := ih h
      omega
theorem wf_ne {c : Coat} (h : WfCoat c) (k : kindN c ≠ 0) : subs c ≠ [] := by
  cases c with
  | one m => exact absurd rfl k
  | quarters l =>
    unfold WfCoat at h
    intro z
    have z' : l = [] := z
    rw [z'] at h
    simp at h
  | impaled a b => simp [subs]
  | pretence a b => simp [subs]
theorem take_more {α : Type} {l : List α} {i : Nat} {x : α} (h : l[i]? = some x) : l.take (i + 1) = l.take i ++ [x] := by
  rw [List.take_add_one, h]
  rfl
end Hc

/-! ### F. points of coats -/
namespace Hc
open PySem PySem.Spec PyProof.Rows L2
open Sh ShMarsh
/-- which coat of coats together a point is of, and where -/
def quartN (n p r : Nat) : Nat × Nat × Nat := (if r * side n / 576 * side n + p * side n / 480 < n then r * side n / 576 * side n + p * side n / 480 else 0, p * side n % 480, r * side n % 576)
def withinN (c : Coat) (p r : Nat) : Nat × Nat × Nat := match c with
  | .one _ => (0, p, r)
  | .quarters l => quartN l.length p r
  | .impaled _ _ => if p < 240 then (0, 2 * p, r) else (1, 2 * (p - 240), r)
  | .pretence _ _ => if 160 ≤ p ∧ p < 320 ∧ 192 ≤ r ∧ r < 384 then (1, 3 * (p - 160), 3 * (r - 192)) else (0, p, r)
theorem pick_get : ∀ {l : List Coat} {k i p r : Nat} {c : Coat}, l[k]? = some c → pick l k i p r = c.partAt (i + partsOf (l.take k)) p r
  | [], _, _, _, _, _, e => by simp at e
  | x :: l, 0, i, p, r, c, e => by
    simp at e
    subst e
    unfold pick
    rfl
  | x :: l, k + 1, i, p, r, c, e => by
    have ih := pick_get (l := l) (k := k) (i := i + x.parts) (p := p) (r := r) (c := c) (by simpa using e)
    unfold pick
    rw [if_neg (by omega), show k + 1 - 1 = k from rfl, ih]
    show c.partAt (i + x.parts + partsOf (l.take k)) p r = c.partAt (i + (x.parts + partsOf (l.take k))) p r
    rw [Nat.add_assoc]
theorem side_ge (n : Nat) : 1 ≤ side n ∧ side n ≤ 3 := by
  unfold side
  split
  · omega
  · split <;> omega
/-- one step down -/
theorem within_ok {c : Coat} {p r : Nat} (wf : WfCoat c) (hk : kindN c ≠ 0) (hp : p < 480) (hr : r < 576) :
    ∃ c', (subs c)[(withinN c p r).1]? = some c' ∧ (withinN c p r).2.1 < 480 ∧ (withinN c p r).2.2 < 576 ∧ ∀ i, c.partAt i p r = c'.partAt (i + partsOf ((subs c).take (withinN c p r).1)) (withinN c p r).2.1 (withinN c p r).2.2 := by
  cases c with
  | one m => exact absurd rfl hk
  | quarters l =>
    unfold WfCoat at wf
    have hlt : (withinN (.quarters l) p r).1 < l.length := by
      unfold withinN quartN
      simp only
      split <;> omega
    refine ⟨l[(withinN (.quarters l) p r).1], List.getElem?_eq_getElem hlt, Nat.mod_lt _ (by omega), Nat.mod_lt _ (by omega), fun i => ?_⟩
    have e := pick_get (l := l) (k := (withinN (.quarters l) p r).1) (i := i) (p := p * side l.length % 480) (r := r * side l.length % 576) (List.getElem?_eq_getElem hlt)
    have e0 : (Coat.quarters l).partAt i p r = pick l (withinN (.quarters l) p r).1 i (p * side l.length % 480) (r * side l.length % 576) := by
      rw [Coat.partAt]
      rfl
    exact e0.trans e
  | impaled a b =>
    by_cases c : p < 240
    · refine ⟨a, ?_, ?_, ?_, fun i => ?_⟩
      · simp [withinN, c, subs]
      · simp [withinN, c]; omega
      · simp [withinN, c]; exact hr
      · simp [withinN, c, subs, partsOf, Coat.partAt]
    · refine ⟨b, ?_, ?_, ?_, fun i => ?_⟩
      · simp [withinN, c, subs]
      · simp [withinN, c]; omega
      · simp [withinN, c]; exact hr
      · simp [withinN, c, subs, partsOf, Coat.partAt]
  | pretence a b =>
    by_cases c : 160 ≤ p ∧ p < 320 ∧ 192 ≤ r ∧ r < 384
    · refine ⟨b, ?_, ?_, ?_, fun i => ?_⟩
      · simp [withinN, c, subs]
      · simp [withinN, c]; omega
      · simp [withinN, c]; omega
      · simp [withinN, c, subs, partsOf, Coat.partAt]
    · refine ⟨a, ?_, ?_, ?_, fun i => ?_⟩
      · simp only [withinN]; rw [if_neg c]; rfl
      · simp only [withinN]; rw [if_neg c]; exact hp
      · simp only [withinN]; rw [if_neg c]; exact hr
      · simp only [withinN]; rw [if_neg c]
        simp only [Coat.partAt]; rw [if_neg c]
        simp [subs, partsOf]
theorem cutV_take {xs : List V} {k : Nat} : cutV xs none (some (k : Int)) = xs.take k := by
  unfold cutV
  rw [HT.sIx_none, HT.sIx_nat]
  simp
theorem IsCoats.take {K : PySem.W.Frag} {D : Hp} : ∀ {vs : List V} {ls : List Coat} (k : Nat), IsCoats K D vs ls → IsCoats K D (vs.take k) (ls.take k)
  | _, _, 0, _ => by
    rw [List.take_zero, List.take_zero]
    unfold IsCoats
    trivial
  | [], [], _ + 1, _ => by
    rw [List.take_nil, List.take_nil]
    unfold IsCoats
    trivial
  | _ :: vs, _ :: ls, k + 1, h => by
    unfold IsCoats at h
    rw [List.take_succ_cons, List.take_succ_cons]
    unfold IsCoats
    exact ⟨h.1, IsCoats.take k h.2⟩
  | [], _ :: _, _, h => by unfold IsCoats at h; exact h.elim
  | _ :: _, [], _, h => by unfold IsCoats at h; exact h.elim
theorem WfCoats.take : ∀ {ls : List Coat} (k : Nat), WfCoats ls → WfCoats (ls.take k)
  | _, 0, _ => by
    rw [List.take_zero]
    unfold WfCoats
    trivial
  | [], _ + 1, _ => by
    rw [List.take_nil]
    unfold WfCoats
    trivial
  | _ :: ls, k + 1, h => by
    unfold WfCoats at h
    rw [List.take_succ_cons]
    unfold WfCoats
    exact ⟨h.1, WfCoats.take k h.2⟩
theorem deep_take : ∀ {ls : List Coat} (k : Nat), deepest (ls.take k) ≤ deepest ls
  | _, 0 => by
    rw [List.take_zero]
    exact Nat.zero_le _
  | [], _ + 1 => by
    rw [List.take_nil]
    exact Nat.le_refl _
  | x :: ls, k + 1 => by
    have := deep_take (ls := ls) k
    rw [List.take_succ_cons]
    show max x.deep (deepest (ls.take k)) ≤ max x.deep (deepest ls)
    omega
end Hc

/-! ### V. readings that give a value and leave the heap -/
namespace Hc
open PySem PySem.Spec PyProof.Rows L2
def Vl (te : TE) (σ : L2.St) (H : Hp) (v : V) : Prop := ∀ Q : VK, Q v H → te σ H Q
def An (t : TT) (σ : L2.St) (H : Hp) (b : Bool) : Prop := ∀ Q : Bool → Hp → Prop, Q b H → t σ H Q
def VA (ta : TA) (σ : L2.St) (H : Hp) (vs : List V) : Prop := ∀ Q : List V → Hp → Prop, Q vs H → ta σ H Q
def Rt (ts : TS) (σ : L2.St) (H : Hp) (v : V) : Prop := ∀ D : Ends, D.rt v H → ts D σ H
/-- the promise of a def that gives v for vs where F says so, and leaves the heap -/
def spFun (F : List V → V → Prop) : Sp := fun vs H Q _ => ∃ v, F vs v ∧ Q v H
section
variable {σ : L2.St} {H : Hp} {ta tb tc te : TE} {t u : TT} {x y v w : V} {i j k : Int} {a b : Bool} {tr : TA} {vs : List V} {n : Nat} {ts tz : TS}
theorem v_var (h : σ[n]? = some (some v)) : Vl (tVar n) σ H v := fun _ q => ⟨v, h, q⟩
theorem v_c : Vl (tC v) σ H v := fun _ q => q
theorem v_i0 {g : Int → Int → V} (ha : Vl ta σ H (.int i)) (hb : Vl tb σ H (.int j)) : Vl (tOp (rI0 g) ta tb) σ H (g i j) := fun _ q => ha _ (hb _ ⟨i, j, rfl, rfl, q⟩)
theorem v_i {C : Int → Int → Prop} {g : Int → Int → V} (ha : Vl ta σ H (.int i)) (hb : Vl tb σ H (.int j)) (c : C i j) : Vl (tOp (rI C g) ta tb) σ H (g i j) := fun _ q => ha _ (hb _ ⟨i, j, rfl, rfl, c, q⟩)
theorem v_neg (ha : Vl ta σ H (.int i)) : Vl (tUn (rU fun i => .int (-i)) ta) σ H (.int (-i)) := fun _ q => ha _ ⟨i, rfl, q⟩
theorem v_eq (ha : Vl ta σ H (.int i)) (hb : Vl tb σ H (.int j)) : Vl (tOp rEq ta tb) σ H (.bl (decide (i = j))) := fun Q q => ha _ (hb _ ⟨rfl, by
  have e : decide (V.int i = V.int j) = decide (i = j) := by
    by_cases z : i = j
    · rw [z]; simp
    · rw [decide_eq_false z, decide_eq_false (fun y => z (by injection y))]
  rw [e]
  exact q⟩)
theorem v_ne (ha : Vl ta σ H (.int i)) (hb : Vl tb σ H (.int j)) : Vl (tOp rNe ta tb) σ H (.bl (!decide (i = j))) := fun Q q => ha _ (hb _ ⟨rfl, by
  have e : decide (V.int i = V.int j) = decide (i = j) := by
    by_cases z : i = j
    · rw [z]; simp
    · rw [decide_eq_false z, decide_eq_false (fun y => z (by injection y))]
  rw [e]
  exact q⟩)
theorem v_eqB (ha : Vl ta σ H (.bl a)) (hb : Vl tb σ H (.bl b)) : Vl (tOp rEq ta tb) σ H (.bl (a == b)) := fun Q q => ha _ (hb _ ⟨rfl, by
  have e : decide (V.bl a = V.bl b) = (a == b) := by cases a <;> cases b <;> rfl
  rw [e]
  exact q⟩)
theorem v_neB (ha : Vl ta σ H (.bl a)) (hb : Vl tb σ H (.bl b)) : Vl (tOp rNe ta tb) σ H (.bl (a != b)) := fun Q q => ha _ (hb _ ⟨rfl, by
  have e : (!decide (V.bl a = V.bl b)) = (a != b) := by cases a <;> cases b <;> rfl
  rw [e]
  exact q⟩)
theorem v_chain {g g' : Int → Int → Bool} (ha : Vl ta σ H (.int i)) (hb : Vl tb σ H (.int j)) (hc : Vl tc σ H (.int k)) : Vl (tChain (rI0 fun i j => .bl (g i j)) (rI0 fun i j => .bl (g' i j)) ta tb tc) σ H (.bl (g i j && g' j k)) := fun Q q => ha _ (hb _ ⟨i, j, rfl, rfl, _, rfl, by
  cases h : g i j with
  | true =>
    rw [h] at q
    exact hc _ ⟨j, k, rfl, rfl, q⟩
  | false =>
    rw [h] at q
    exact q⟩)
theorem v_and (ha : Vl ta σ H (.bl a)) (hb : Vl tb σ H (.bl b)) : Vl (tAndV ta tb) σ H (.bl (a && b)) := fun Q q => ha _ ⟨a, rfl, by
  cases a with
  | true => exact hb _ q
  | false => exact q⟩
theorem v_or (ha : Vl ta σ H (.bl a)) (hb : Vl tb σ H (.bl b)) : Vl (tOrV ta tb) σ H (.bl (a || b)) := fun Q q => ha _ ⟨a, rfl, by
  cases a with
  | true => exact q
  | false => exact hb _ q⟩
theorem v_not (ha : Vl ta σ H (.bl a)) : Vl (tNotV ta) σ H (.bl (!a)) := fun _ q => ha _ ⟨a, rfl, q⟩
theorem v_ifI (h : An t σ H b) (ha : Vl ta σ H (.int i)) (hb : Vl tb σ H (.int j)) : Vl (tIf t ta tb) σ H (.int (if b = true then i else j)) := fun Q q => h _ (by
  cases b with
  | true => exact ha _ q
  | false => exact hb _ q)
theorem v_ifB {c : Bool} (h : An t σ H c) (ha : Vl ta σ H (.bl a)) (hb : Vl tb σ H (.bl b)) : Vl (tIf t ta tb) σ H (.bl (if c = true then a else b)) := fun Q q => h _ (by
  cases c with
  | true => exact ha _ q
  | false => exact hb _ q)
theorem v_call {F : List V → V → Prop} {E : XK} (h : VA tr σ H vs) (hf : F (vs ++ []) v) : Vl (tCall (spFun F) [] E tr) σ H v := fun _ q => h _ ⟨v, hf, q⟩
theorem v_abs (h : VA tr σ H [.int i]) : Vl (tCB (fun xs H Q => ∃ i : Int, xs = [.int i] ∧ Q (.int (if i < 0 then -i else i)) H) tr) σ H (.int (if i < 0 then -i else i)) := fun _ q => h _ ⟨i, rfl, q⟩
theorem v_min (h : VA tr σ H [.int i, .int j]) : Vl (tCB (fun xs H Q => ∃ i j : Int, xs = [.int i, .int j] ∧ Q (.int (if j < i then j else i)) H) tr) σ H (.int (if j < i then j else i)) := fun _ q => h _ ⟨i, j, rfl, q⟩
theorem va_nil : VA tNil σ H [] := fun _ q => q
theorem va_cons (h : Vl te σ H v) (hr : VA tr σ H vs) : VA (tCons te tr) σ H (v :: vs) := fun _ q => h _ (hr _ q)
theorem a_test (h : Vl te σ H (.bl b)) : An (tTest te) σ H b := fun _ q => h _ ⟨b, rfl, q⟩
theorem a_B (h : Vl te σ H (.bl b)) : An (tB te) σ H b := fun _ q => h _ ⟨b, rfl, q⟩
theorem a_and (h1 : An t σ H a) (h2 : An u σ H b) : An (tAnd t u) σ H (a && b) := fun Q q => h1 _ (by
  cases a with
  | true => exact h2 _ q
  | false => exact q)
theorem a_or (h1 : An t σ H a) (h2 : An u σ H b) : An (tOr t u) σ H (a || b) := fun Q q => h1 _ (by
  cases a with
  | true => exact q
  | false => exact h2 _ q)
theorem a_not (h : An t σ H a) : An (tNot t) σ H (!a) := fun _ q => h _ q
theorem An.go {D : Ends} {t1 t2 t3 : TS} (h : An t σ H b) (k : if b = true then t1 { D with nx := t3 D } σ H else t2 { D with nx := t3 D } σ H) : tSeq (tIfS t t1 t2) t3 D σ H := h _ k
theorem r_ret (h : Vl te σ H v) : Rt (tRet te) σ H v := fun _ q => h _ q
theorem r_ifI (h : An t σ H b) (h1 : b = true → Rt ts σ H (.int i)) (h2 : b = false → Rt tz σ H (.int j)) : Rt (tSeq (tIfS t ts tNext) tz) σ H (.int (if b = true then i else j)) := fun D q => h _ (by
  cases b with
  | true => exact h1 rfl _ q
  | false => exact h2 rfl _ q)
theorem r_ifB {c : Bool} (h : An t σ H c) (h1 : c = true → Rt ts σ H (.bl a)) (h2 : c = false → Rt tz σ H (.bl b)) : Rt (tSeq (tIfS t ts tNext) tz) σ H (.bl (if c = true then a else b)) := fun D q => h _ (by
  cases c with
  | true => exact h1 rfl _ q
  | false => exact h2 rfl _ q)
theorem r_set (h : Vl te σ H v) (h2 : Rt tz (σ.set n (some v)) H w) : Rt (tSeq (tAsg te (gName n)) tz) σ H w := fun D q => h _ (h2 D q)
theorem a_when {D : Ends} {t1 t3 : TS} (h : An t σ H b) (h1 : b = true → t1 { D with nx := t3 D } σ H) (h2 : b = false → t3 D σ H) : tSeq (tIfS t t1 tNext) t3 D σ H := h _ (by
  cases b with
  | true => exact h1 rfl
  | false => exact h2 rfl)
theorem rt_I {D : Ends} (h : Rt ts σ H (.int i)) (e : i = j) (k : D.rt (.int j) H) : ts D σ H := h D (e ▸ k)
theorem rt_B {D : Ends} (h : Rt ts σ H (.bl a)) (e : a = b) (k : D.rt (.bl b) H) : ts D σ H := h D (e ▸ k)
end
end Hc

-- EXTRA KE.GoesEnum KE.GoesMore KE.DataMinMax KE.DatumOrd HandS.Walk
/-! ### G. tuples of tuples at the top, enumerate over a tuple, a tuple's greatest -/
namespace Hc
open PySem PySem.Spec PyProof.Rows L2
def rowAt (K : PySem.W.Frag) (x : Str) (i : Nat) : Addr := match K.lookup (He.ga K x) with
  | some ⟨_, _, .seq its _, _⟩ => (match its[i]? with
    | some (.ref a) => a
    | _ => 0)
  | _ => 0
def tupAtB (K : PySem.W.Frag) (a : Addr) (vs : List V) : Bool := match K.lookup a with
  | some ⟨.type c, _, .seq its _, _⟩ => decide (c = "tuple") && (decide (its.size ≤ sizeLine) && He.relAll vs its.toList)
  | _ => false
theorem tupAtB_ok {K : PySem.W.Frag} {a : Addr} {vs : List V} (h : tupAtB K a vs = true) (H : Hp) : SqT K H a vs := by
  unfold tupAtB at h
  cases q : K.lookup a with
  | none =>
    rw [q] at h
    cases h
  | some o =>
    obtain ⟨oc, od, dt, osl⟩ := o
    rw [q] at h
    cases oc with
    | type c =>
      cases dt with
      | seq its n =>
        obtain ⟨h1, h2⟩ := He.ba (show (decide (c = "tuple") && (decide (its.size ≤ sizeLine) && He.relAll vs its.toList)) = true from h)
        obtain ⟨h3, h4⟩ := He.ba h2
        exact .inr ⟨_, its, n, q, congrArg Value.type (of_decide_eq_true h1), rfl, of_decide_eq_true h3, He.relAll_ok h4⟩
      | _ => cases h
    | _ => cases dt <;> cases h
def rowAs (K : PySem.W.Frag) (x : Str) (n : Nat) : List Addr := (List.range n).map (rowAt K x)
def tup2B (K : PySem.W.Frag) (x : Str) (rows : List (List Int)) : Bool := tupAtB K (He.ga K x) ((rowAs K x rows.length).map V.ref) && (rows.zipIdx.all fun r => tupAtB K (rowAt K x r.2) (r.1.map V.int))
/-- a tuple of tuples of numbers -/
def Rows (K : PySem.W.Frag) (_ : Hp) (a : Addr) (rows : List (List Int)) : Prop := ∃ as : List Addr, as.length = rows.length ∧ (∀ H : Hp, SqT K H a (as.map V.ref)) ∧ ∀ (i : Nat) (r : List Int), rows[i]? = some r → ∃ b, as[i]? = some b ∧ ∀ H : Hp, SqT K H b (r.map V.int)
theorem tup2B_ok {K : PySem.W.Frag} {x : Str} {rows : List (List Int)} (h : tup2B K x rows = true) (H : Hp) : Rows K H (He.ga K x) rows := by
  obtain ⟨h1, h2⟩ := He.ba h
  refine ⟨rowAs K x rows.length, by simp [rowAs], tupAtB_ok h1, fun i r hi => ⟨rowAt K x i, ?_, ?_⟩⟩
  · have il : i < rows.length := (List.getElem?_eq_some_iff.mp hi).1
    simp [rowAs, il]
  · have z := List.all_eq_true.mp h2 (r, i) (by rw [List.mem_iff_getElem?]; exact ⟨i, by simp [hi]⟩)
    exact tupAtB_ok z
/-- the tuple at a, each item in a new pair -/
def IteT (K : PySem.W.Frag) (a : Addr) : It :=
  ⟨fun i H => ∃ (xs : List V) (x : V), SqT K H a xs ∧ xs[i]? = some x, fun i H v H' => ∃ T x, v = .ref T ∧ H T = none ∧ H' = upd H T (.tup [.int (i : Nat), x]) ∧ ∀ xs, SqT K H a xs → xs[i]? = some x, fun i H => ∃ xs : List V, SqT K H a xs ∧ xs.length ≤ i⟩
open PySem.Sem (wp) in
set_option maxHeartbeats 4000000 in
theorem meets_enum1 {v : Value} {o : Obj} {H : Heap → Prop} (B : Begins v o H) :
    Meets (Builtin.«enumerate.__new__» ⟨[.type "enumerate", v], []⟩) (fun _ R s => H s.heap ∧
      R (.ok (.ret (.ref (s.heap.push o).objs.size))) { s with heap := (s.heap.push o).push { cls := .type "enumerate", data := .fields #[.none, .bool false, .ref s.heap.objs.size, rawInt 0, .none, .none] } }) :=
  .of_wp fun prog w A R s h => by
    obtain ⟨hp, g, d, tk, os⟩ := s
    obtain ⟨h1, h⟩ := h
    have hsub := sub_enumerate
    have q1 : ∀ {A' : Around} {E : Value → Shared → Prop} {Q : Value → Shared → Prop}, Q (.ref hp.objs.size) ⟨hp.push o, g, d, tk, os⟩ → wpAny (model prog w) A' (pyIter v) Q E ⟨hp, g, d, tk, os⟩ :=
      fun q => B.iter prog w _ _ ⟨hp, g, d, tk, os⟩ _ h1 q
    wp_walk using q1
    refine wpAny_stack_any fun st => wpAny_pure ?_
    split
    · rename_i c _ _ _ _ _
      cases (c == Value.type "enumerate")
      · wp_walk using q1
        exact ⟨_, rfl, h⟩
      · wp_walk using q1
        exact ⟨_, rfl, h⟩
    · wp_walk using q1
      exact ⟨_, rfl, h⟩
theorem call_enum1 {prog : Program} {w : World} {A : Around} {E : Value → Shared → Prop} {s : Shared} {v : Value} {o : Obj} {H : Heap → Prop} {Q : Value → Shared → Prop} (B : Begins v o H) (h1 : H s.heap)
    (h : ∀ h', IsEnum h' (s.heap.objs.size + 1) s.heap.objs.size 0 .none → h'.get? s.heap.objs.size = some o →
      (∀ b o, s.heap.get? b = some o → h'.get? b = some o) → Q (.ref (s.heap.objs.size + 1)) { s with heap := h' }) :
    wpAny (model prog w) A (call (.type "enumerate") [v]) Q E s := by
  refine callType_new F.called_enumerate (by decide) (F.typeCall_enumerate_1 _) (F.newCall_enumerate_1 _) (fun obj => F.args_object_init_2 obj _) F.entry_enumerate_new (meets_enum1 B) ⟨h1, ?_⟩
  have hz : (s.heap.push o).objs.size = s.heap.objs.size + 1 := Heap.size_push ..
  show _ ∧ _
  rw [hz]
  have he : IsEnum ((s.heap.push o).push { cls := .type "enumerate", data := .fields #[.none, .bool false, .ref s.heap.objs.size, rawInt 0, .none, .none] }) (s.heap.objs.size + 1) s.heap.objs.size 0 .none := by
    have := Heap.get?_push_size (s.heap.push o) (o := { cls := .type "enumerate", data := .fields #[.none, .bool false, .ref s.heap.objs.size, rawInt 0, .none, .none] }) rfl
    rw [hz] at this
    exact this
  exact ⟨⟨_, he, rfl⟩, h _ he (Heap.get?_push_of_some _ (Heap.get?_push_size _ B.free)) fun b o x => Heap.get?_push_of_some _ (Heap.get?_push_of_some _ x)⟩
theorem turn_enumT {P : Program} {w : World} {K : PySem.W.Frag} {elts : List Expr} {kk : Nat} {tpos : Pos} (a e it : Addr) :
    Turn P w K (.Tuple elts kk tpos) (IteT K a) [e, it] e (fun i h => (∃ old, IsEnum h e it ((i : Nat) : Int) old) ∧ h.IsTupleIter it a i ∧ e ≠ it ∧ a ≠ it ∧ a ≠ e) where
  mem := by simp
  obj := fun i h st b hb => by
    obtain ⟨⟨old, he⟩, ⟨o, ho, hc, hd⟩, _⟩ := st
    have e' : b = e ∨ b = it := by simpa using hb
    rcases e' with z | z
    · rw [z]; exact ⟨_, he, fun v q => nomatch q⟩
    · rw [z]; exact ⟨o, ho, fun v q => by rw [hd] at q; cases q⟩
  keep := fun i h h' st k => let ⟨⟨old, he⟩, hi, hne⟩ := st; ⟨⟨old, k e (by simp) _ he⟩, hi.at fun o q => k it (by simp) o q, hne⟩
  item := by
    intro X hP hw hK hc i pins s σ H E I hf st hg
    subst hP hw hK
    obtain ⟨⟨old, he⟩, hit, hne, hai, hae⟩ := st
    obtain ⟨xs, x, hq, hx⟩ := hg
    obtain ⟨its, rv, p, hz⟩ := I.tuple hq
    obtain ⟨u, hu, ru⟩ := rv.get hx
    have hel : e < s.heap.objs.size := Heap.lt_size he
    have hil : it < s.heap.objs.size := by obtain ⟨_, q, _⟩ := hit; exact Heap.lt_size q
    have hlt : i < its.toArray.size := by
      have := (List.getElem?_eq_some_iff.mp hu).1
      simpa using this
    have p' : s.heap.IsTuple a its.toArray := p
    refine wpAny_pyNext_enum_itemD (Draws.tuple (prog := X.prog) (w := X.w) (A := X.A.in1) (I.ok.hd hc) it a hai its.toArray) he ⟨hit, p'⟩ hlt hne (by simp [hne, hae.symm]) fun x' h' tk hx' ho hst' hT hsz hk => ?_
    obtain ⟨hit', _⟩ := hst'
    have ex : x' = u := by
      have z : its[i]? = some x' := by simpa using hx'
      rw [hu] at z
      exact (Option.some.inj z).symm
    subst ex
    refine ⟨_, rfl, wpAny_letOwnedTupleGo_enum (s := { s with heap := h', toks := tk + 1 }) ho fun h'' he' sb => ?_⟩
    have hT2 : h''.get? s.heap.objs.size = some { cls := .type "tuple", data := .seq #[.int i tk, x'] } := (sb.2 _ (Nat.ne_of_gt hel)).trans hT
    have new : ObjOk X.prog X.w (upd H s.heap.objs.size (.tup [.int (i : Nat), x])) h'' s.heap.objs.size (.tup [.int (i : Nat), x]) :=
      ⟨by show 2 ≤ sizeLine; decide, [.int i tk, x'], .cons ⟨_, rfl⟩ (.cons ru .nil), ⟨_, hT2, rfl, _, rfl⟩⟩
    have I1 : Inv X pins σ (upd H s.heap.objs.size (.tup [.int (i : Nat), x])) { s with heap := h'', toks := tk + 1 } :=
      I.turnedNew (ch := [e, it]) (fun b ob hb q => (sb.2 b (fun z => hb (by simp [z]))).trans (hk b ob (fun z => hb (by simp [z])) (fun z => hb (by simp [z])) q)) hf (Nat.le_refl _) new
    refine ⟨.ref s.heap.objs.size, _, I1, rfl, ⟨_, x, rfl, I.hok.fresh (Nat.le_refl _), rfl, fun ys hy => by rw [I.tuple_inj hy hq]; exact hx⟩, ⟨⟨x', ?_⟩, hit'.at fun o q => (sb.2 it (Ne.symm hne)).trans q, hne, hai, hae⟩, fun b hb => ?_⟩
    · have e1 : ((i + 1 : Nat) : Int) = (i : Int) + 1 := by omega
      rw [e1]; exact he'
    · have hb' : b < s.heap.objs.size := by
        have e' : b = e ∨ b = it := by simpa using hb
        rcases e' with z | z
        · rw [z]; exact hel
        · rw [z]; exact hil
      rw [upd_ne (Nat.ne_of_lt hb')]
      exact (hf b hb).1
  done := by
    intro X hP hw hK hc i pins s σ H E I hf st hg
    subst hP hw hK
    obtain ⟨⟨old, he⟩, hit, hne, hai, hae⟩ := st
    obtain ⟨xs, hq, hx⟩ := hg
    obtain ⟨its, rv, p, hz⟩ := I.tuple hq
    obtain ⟨f0, f1, f2, f3, f4, f5⟩ := hf it (by simp)
    have hl := rv.length
    have p' : s.heap.IsTuple a its.toArray := p
    have D : Draws X.prog X.w X.A.in1 it [it, a] i (fun _ _ => False) (fun j h => j = i ∧ h.IsTupleIter it a i ∧ h.IsTuple a its.toArray) := {
      live := fun _ _ st => let ⟨o, ho, _⟩ := st.2.1; ⟨o, ho⟩
      frame := fun _ _ _ st hk => ⟨st.1, st.2.1.at fun o e => hk it (by simp) o e, st.2.2.at fun o e => hk a (by simp) o e⟩
      item := fun j s Q E hj st _ => absurd hj (by rw [st.1]; exact Nat.lt_irrefl i)
      done := fun s Q E st hE => wpAny_nextOf_tuple_end (I.ok.hd hc) st.2.1 st.2.2 (by simp; omega) hE }
    exact wpAny_pyNext_enum_endD D he ⟨rfl, hit, p'⟩ fun h' eb => ⟨rfl, I.turned (t' := s.toks) (fun b o hb q => eb b o hb q) f0 f1 f3 f4 f5⟩
  self := fun A i s Q E st h => let ⟨⟨_, he⟩, _⟩ := st; wpAny_pyIter_enum he h
def iEnumT (K : PySem.W.Frag) (ta : TA) : TI := fun σ H R => ta σ H fun vs H1 => ∃ a xs, vs = [.ref a] ∧ SqT K H1 a xs ∧ R (IteT K a) H1
theorem pi_enumT {X : Cx} {e : Expr} {ta : TA} {p pos tpos : Pos} {elts : List Expr} {kk : Nat} (hm : X.mg "enumerate" = none) (hg : Gl X "enumerate") (ha : PA X [e] ta) (hs : starEach [e] X.env = [(false, eval e X.env)] := by rfl) :
    PI X (.Tuple elts kk tpos) (.Call (.Name "enumerate" p) [e] [] pos) (iEnumT X.K ta) := by
  refine ⟨fun pins s σ H R I h => ?_⟩
  refine Call_ (ld_blt I hg hm boot_enumerate (PyProof.Rows.callWith_type1 (thn (ha.run pos pins s σ H _ I h) fun us s1 ⟨vs, H1, I1, r1, q1⟩ => ?_) hs rfl))
  obtain ⟨a, xs, ex, hq, q⟩ := q1
  subst ex
  cases r1 with
  | cons r rr =>
    cases rr
    cases r
    obtain ⟨its, rv, p', hz⟩ := I1.tuple hq
    have p2 : s1.heap.IsTuple a its.toArray := p'
    have hal : a < s1.heap.objs.size := by obtain ⟨_, q, _⟩ := p2; exact Heap.lt_size q
    refine call_enum1 (begins_tuple a its.toArray) p2 fun h' he hit hk => wpAny_pyIter_enum he ?_
    have I2 : Inv X pins σ H1 { s1 with heap := h' } := I1.kept (t' := s1.toks) hk
    refine ⟨s1.heap.objs.size + 1, [s1.heap.objs.size + 1, s1.heap.objs.size], _, _, H1, rfl, I2, turn_enumT a (s1.heap.objs.size + 1) s1.heap.objs.size, ⟨⟨.none, he⟩, ⟨_, hit, rfl, rfl⟩, Nat.succ_ne_self _, Nat.ne_of_lt hal, Nat.ne_of_lt (Nat.lt_succ_of_lt hal)⟩, fun b hb => ?_, q⟩
    have e' : b = s1.heap.objs.size + 1 ∨ b = s1.heap.objs.size := by simpa using hb
    have hle : s1.heap.objs.size ≤ b := by
      rcases e' with z | z
      · rw [z]; exact Nat.le_add_right _ _
      · rw [z]; exact Nat.le_refl _
    exact I1.fpOk hle (I1.hok.fresh hle)
theorem walk_enumT {K : PySem.W.Frag} {a : Addr} {xs : List V} : Walk (IteT K a) xs.length (fun H => SqT K H a xs) (YPair (fun i => some (.int (i : Nat))) (fun i => xs[i]?)) := by
  refine ⟨fun i _ hi q => ⟨xs, xs[i], q, by simp [hi]⟩, fun _ q => ⟨xs, q, Nat.le_refl _⟩, fun i H v H' _ q y => ?_⟩
  obtain ⟨T, x, h1, h2, h3, h4⟩ := y
  exact ⟨T, .int (i : Nat), x, h1, h2, h3, rfl, h4 xs q⟩
/-! a tuple's greatest -/
theorem ints_read {h : Heap} : ∀ {ns : List Int} {us : List Value}, Vals (ns.map V.int) us → ∃ as, ReadsAll h us (ns.map PyData.int) as
  | [], us, r => by
    cases r
    exact ⟨_, .nil⟩
  | n :: ns, us, r => by
    cases r with
    | cons r1 r2 =>
      obtain ⟨t, rfl⟩ := r1
      obtain ⟨as, q⟩ := ints_read r2
      exact ⟨_, .cons (.int n t) q⟩
theorem fold_max : ∀ (l : List Int) (a : Int), l.foldl max a ∈ a :: l ∧ ∀ y, y ∈ a :: l → y ≤ l.foldl max a
  | [], a => ⟨by simp, by simp⟩
  | b :: l, a => by
    obtain ⟨h1, h2⟩ := fold_max l (max a b)
    rw [List.foldl_cons]
    refine ⟨?_, fun y hy => ?_⟩
    · rcases List.mem_cons.mp h1 with e | e
      · rw [e]
        rcases Int.le_total a b with z | z
        · rw [Int.max_eq_right z]; simp
        · rw [Int.max_eq_left z]; simp
      · simp [e]
    · have z := h2 (max a b) (by simp)
      rcases List.mem_cons.mp hy with e | e
      · subst e; omega
      · rcases List.mem_cons.mp e with e2 | e2
        · subst e2; omega
        · exact h2 y (by simp [e2])
theorem ints_max (l : List Int) (a : Int) : ∃ m, PySem.W.maxD (.int a) (l.map PyData.int) = .int m ∧ m ∈ a :: l ∧ ∀ y, y ∈ a :: l → y ≤ m :=
  ⟨_, PySem.W.maxD_ints a l, (fold_max l a).1, (fold_max l a).2⟩
theorem cr_maxT {X : Cx} (hc : X.calm = true) (hu : X.A.units + 64 < cLine) : CallR X (.builtin "max") (fun vs H Q => ∃ (a : Addr) (ns : List Int), vs = [V.ref a] ∧ SqT X.K H a (ns.map V.int) ∧ 0 < ns.length ∧ ∀ m, m ∈ ns → (∀ y, y ∈ ns → y ≤ m) → Q (.int m) H) := by
  intro pins s σ H vs us Q I r h
  obtain ⟨a, ns, rfl, hs, hne, q⟩ := h
  obtain ⟨its, rv, hl, _⟩ := I.tuple hs
  rw [Vals.ref1 r]
  cases ns with
  | nil => cases hne
  | cons n ns =>
    obtain ⟨as, hr⟩ := ints_read (h := s.heap) rv
    have hl' : s.heap.IsTuple a its.toArray := hl
    obtain ⟨m, em, h1, h2⟩ := ints_max ns n
    refine PySem.W.max_tuple_data (I.ok.hd hc) hl' (x := .int n) (xs := ns.map PyData.int) (by simpa using hr) ?_ ?_ fun i v h' tk bs hv hread hk => ?_
    · exact PySem.W.alikeAll_datum (α := Int) (n :: ns)
    · have z : PyData.depthAll ((n :: ns).map (PySem.W.Datum.toD (α := Int))) ≤ PySem.W.Datum.depth Int := PySem.W.depthAll_map (n :: ns)
      have z2 : PySem.W.Datum.depth Int ≤ 2 := by decide
      have z3 : PyData.depthAll (PyData.int n :: List.map PyData.int ns) ≤ 2 := Nat.le_trans z z2
      exact Nat.lt_of_le_of_lt (by omega) hu
    · rw [em] at hread
      cases hread
      exact ⟨.int m, H, I.kept hk, ⟨_, rfl⟩, q m h1 h2⟩
/-! in a comprehension: the frozen fragment named from outside -/
theorem pe_makK {X : Cx} {K : PySem.W.Frag} {k : Nat} {x : Str} {ps : List Str} {sp : Sp} {e : Expr} {es : List Expr} {t : TA} {p pos : Pos} (U : Mak X.prog X.w X.K X.mg X.base k x ps sp) (hr : Room (k + 1) X.A) (hK : X.K = K) (ha : PA X (e :: es) t) (hg : Gl X x := by rfl) (hdb : (x == ("__debug__" : Str)) = false := by decide)
    (he : starEach (e :: es) X.env = (false, eval e X.env) :: starEach es X.env := by rfl) (hpl : (backTo pos (starEach es X.env)).any (·.1) = false := by rfl) : PE X (.Call (.Name x p) (e :: es) [] pos) (tMake (He.ga K x) sp [] E0 t) := by
  subst hK
  exact pe_mak U hr ha hg hdb he hpl
theorem call_len_K {X : Cx} {K : PySem.W.Frag} (hK : X.K = K) : CallR X (.builtin "len") (fun xs H Q => ∃ p ys, xs = [.ref p] ∧ (SqL K H p ys ∨ SqT K H p ys) ∧ Q (.int ys.length) H) := by
  subst hK
  exact call_len_seq
end Hc

/-! ### T. texts of bytes -/
namespace Hc
open PySem PySem.Spec PyProof.Rows L2
open Sh ShMarsh ShBlazon
def tx (b : List UInt8) : Str := ⟨(b.map UInt8.toNat).toArray⟩
def tv (b : List UInt8) : V := .str (tx b)
theorem tx_add (a b : List UInt8) : tx a ++ tx b = tx (a ++ b) := by
  show (⟨(a.map UInt8.toNat).toArray ++ (b.map UInt8.toNat).toArray⟩ : Str) = _
  unfold tx
  rw [List.map_append, List.append_toArray]
theorem tx_len (b : List UInt8) : (tx b).length = b.length := by
  show ((b.map UInt8.toNat).toArray).size = _
  simp
def joinB (s : List UInt8) : List (List UInt8) → List UInt8
  | [] => []
  | [x] => x
  | x :: y :: r => x ++ s ++ joinB s (y :: r)
theorem join_eq' (s : Str) (p : List Str) : Txt.join s p = Str.join s p := PySem.StrLaws.glued_eq_join s p
theorem tx_join (s : List UInt8) : ∀ ts : List (List UInt8), Txt.join (tx s) (ts.map tx) = tx (joinB s ts)
  | [] => by rw [join_eq']; rfl
  | [x] => by rw [join_eq']; rfl
  | x :: y :: r => by
    have ih := tx_join s (y :: r)
    rw [join_eq'] at ih ⊢
    show tx x ++ tx s ++ Str.join (tx s) ((y :: r).map tx) = _
    rw [ih, tx_add, tx_add]
    rfl
theorem joinB_len (s : List UInt8) : ∀ ts : List (List UInt8), (joinB s ts).length ≤ (ts.map List.length).sum + ts.length * s.length
  | [] => by simp [joinB]
  | [x] => by simp [joinB]
  | x :: y :: r => by
    have ih := joinB_len s (y :: r)
    unfold joinB
    simp only [List.length_append, List.map_cons, List.sum_cons, List.length_cons, Nat.add_mul] at ih ⊢
    omega
/-- words, each with a blank ahead -/
def glue (l : List (List UInt8)) : List UInt8 := l.flatMap fun b => 32 :: b
theorem glue_app (a b : List (List UInt8)) : glue (a ++ b) = glue a ++ glue b := List.flatMap_append ..
theorem glue_spaced : ∀ l : List (List UInt8), l ≠ [] → 32 :: joinB [32] l = glue l
  | [], h => absurd rfl h
  | [x], _ => by simp [joinB, glue]
  | x :: y :: r, _ => by
    have ih := glue_spaced (y :: r) (by simp)
    unfold joinB
    rw [show glue (x :: y :: r) = (32 :: x) ++ glue (y :: r) from rfl, ← ih]
    simp
theorem spaced_join : ∀ l : List (List UInt8), spaced l = joinB [32] l
  | [] => rfl
  | [x] => rfl
  | x :: y :: r => by
    show x ++ (32 :: spaced (y :: r)) = joinB [32] (x :: y :: r)
    rw [spaced_join (y :: r)]
    show x ++ 32 :: joinB [32] (y :: r) = x ++ [32] ++ joinB [32] (y :: r)
    rw [List.append_assoc]
    rfl
theorem spaced_of_glue {ts ws : List (List UInt8)} (h : glue ts = glue ws) (ht : ts ≠ []) (hw : ws ≠ []) : joinB [32] ts = spaced ws := by
  have a := glue_spaced ts ht
  have b := glue_spaced ws hw
  rw [spaced_join]
  rw [h, ← b] at a
  injection a
theorem dec3 (n : Nat) (h : n < 256) : (toString (n : Int) : Str) = tx (number3 n) := by
  have z : ∀ n : Fin 256, (toString (n.val : Int) : Str) = tx (number3 n.val) := by decide +kernel
  exact z ⟨n, h⟩
theorem pe_joinK {X : Cx} {K : PySem.W.Frag} {o e : Expr} {to te : TE} {apos pos : Pos} (hK : X.K = K) (ho : PE X o to) (he : PE X e te) (hs : starEach [e] X.env = [(false, eval e X.env)] := by rfl) (hbase : attributeBase o "join" X.env (eval o X.env) = eval o X.env := by rfl) (hline : (apos.endLine == pos.line) = true := by rfl) :
    PE X (.Call (.Attribute o "join" apos) [e] [] pos) (tM1 (fun x xs H Q => ∃ a p, ∃ ys : List Str, x = .str a ∧ xs = [.ref p] ∧ (SqL K H p (ys.map V.str) ∨ SqT K H p (ys.map V.str)) ∧
      (ys.map (·.length)).sum + ys.length * a.length ≤ 16777216 ∧ Q (.str (Txt.join a ys)) H) to te) := by
  subst hK
  exact pe_join ho he hs hbase hline
end Hc

/-! ### T. the text by places, what the top has written -/
namespace Hc
open PySem PySem.Spec PyProof.Rows L2
def top (i : Nat) : Stmt := PySem.Challenge.pw_heraldcoats_s05_words.main.body.getD i (.Pass ⟨0, 0, 0, 0⟩)
abbrev s_Layer_init : Stmt := inClass (top 9) 0
abbrev n_Layer_init : List Str := ["self", "kind", "numbers", "fill"]
abbrev p_Layer_init : List Str := ["self", "kind", "numbers", "fill"]
theorem sc_Layer_init : FnScope n_Layer_init p_Layer_init (defScope s_Layer_init) := ⟨rfl, rfl, rfl, by decide +kernel, rfl, by decide +kernel, by decide +kernel⟩

abbrev s_Arms_init : Stmt := inClass (top 10) 0
abbrev n_Arms_init : List Str := ["self", "field"]
abbrev p_Arms_init : List Str := ["self", "field"]
theorem sc_Arms_init : FnScope n_Arms_init p_Arms_init (defScope s_Arms_init) := ⟨rfl, rfl, rfl, by decide +kernel, rfl, by decide +kernel, by decide +kernel⟩

abbrev s_Coat_init : Stmt := inClass (top 11) 0
abbrev n_Coat_init : List Str := ["self", "kind"]
abbrev p_Coat_init : List Str := ["self", "kind"]
theorem sc_Coat_init : FnScope n_Coat_init p_Coat_init (defScope s_Coat_init) := ⟨rfl, rfl, rfl, by decide +kernel, rfl, by decide +kernel, by decide +kernel⟩

abbrev s_line_words : Stmt := top 24
abbrev n_line_words : List Str := ["line"]
abbrev p_line_words : List Str := ["line"]
theorem sc_line_words : FnScope n_line_words p_line_words (defScope s_line_words) := ⟨rfl, rfl, rfl, by decide +kernel, rfl, by decide +kernel, by decide +kernel⟩

abbrev s_field_words : Stmt := top 25
abbrev n_field_words : List Str := ["field", "behind"]
abbrev p_field_words : List Str := ["field"]
theorem sc_field_words : FnScope n_field_words p_field_words (defScope s_field_words) := ⟨rfl, rfl, rfl, by decide +kernel, rfl, by decide +kernel, by decide +kernel⟩

abbrev s_group_words : Stmt := top 26
abbrev n_group_words : List Str := ["layer", "charge", "many", "manner", "size", "found", "article"]
abbrev p_group_words : List Str := ["layer"]
theorem sc_group_words : FnScope n_group_words p_group_words (defScope s_group_words) := ⟨rfl, rfl, rfl, by decide +kernel, rfl, by decide +kernel, by decide +kernel⟩

abbrev s_layer_words : Stmt := top 27
abbrev n_layer_words : List Str := ["layer", "found"]
abbrev p_layer_words : List Str := ["layer"]
theorem sc_layer_words : FnScope n_layer_words p_layer_words (defScope s_layer_words) := ⟨rfl, rfl, rfl, by decide +kernel, rfl, by decide +kernel, by decide +kernel⟩

abbrev s_blazon_of : Stmt := top 28
abbrev n_blazon_of : List Str := ["arms", "pieces", "layer", "piece"]
abbrev p_blazon_of : List Str := ["arms"]
theorem sc_blazon_of : FnScope n_blazon_of p_blazon_of (defScope s_blazon_of) := ⟨rfl, rfl, rfl, by decide +kernel, rfl, by decide +kernel, by decide +kernel⟩

abbrev s_NoCoat_init : Stmt := inClass (top 32) 0
abbrev n_NoCoat_init : List Str := ["self", "place"]
abbrev p_NoCoat_init : List Str := ["self", "place"]
theorem sc_NoCoat_init : FnScope n_NoCoat_init p_NoCoat_init (defScope s_NoCoat_init) := ⟨rfl, rfl, rfl, by decide +kernel, rfl, by decide +kernel, by decide +kernel⟩

abbrev s_Bytes_init : Stmt := inClass (top 33) 0
abbrev n_Bytes_init : List Str := ["self", "some"]
abbrev p_Bytes_init : List Str := ["self", "some"]
theorem sc_Bytes_init : FnScope n_Bytes_init p_Bytes_init (defScope s_Bytes_init) := ⟨rfl, rfl, rfl, by decide +kernel, rfl, by decide +kernel, by decide +kernel⟩

abbrev s_read_byte : Stmt := top 34
abbrev n_read_byte : List Str := ["source", "least", "most", "at"]
abbrev p_read_byte : List Str := ["source", "least", "most"]
theorem sc_read_byte : FnScope n_read_byte p_read_byte (defScope s_read_byte) := ⟨rfl, rfl, rfl, by decide +kernel, rfl, by decide +kernel, by decide +kernel⟩

abbrev s_read_tinctures : Stmt := top 35
abbrev n_read_tinctures : List Str := ["source", "one", "other"]
abbrev p_read_tinctures : List Str := ["source"]
theorem sc_read_tinctures : FnScope n_read_tinctures p_read_tinctures (defScope s_read_tinctures) := ⟨rfl, rfl, rfl, by decide +kernel, rfl, by decide +kernel, by decide +kernel⟩

abbrev s_read_field : Stmt := top 36
abbrev n_read_field : List Str := ["source", "kind", "way", "n"]
abbrev p_read_field : List Str := ["source"]
theorem sc_read_field : FnScope n_read_field p_read_field (defScope s_read_field) := ⟨rfl, rfl, rfl, by decide +kernel, rfl, by decide +kernel, by decide +kernel⟩

abbrev s_read_fill : Stmt := top 37
abbrev n_read_fill : List Str := ["source", "arms"]
abbrev p_read_fill : List Str := ["source", "arms"]
theorem sc_read_fill : FnScope n_read_fill p_read_fill (defScope s_read_fill) := ⟨rfl, rfl, rfl, by decide +kernel, rfl, by decide +kernel, by decide +kernel⟩

abbrev s_read_layer : Stmt := top 38
abbrev n_read_layer : List Str := ["source", "arms", "kind", "numbers"]
abbrev p_read_layer : List Str := ["source", "arms"]
theorem sc_read_layer : FnScope n_read_layer p_read_layer (defScope s_read_layer) := ⟨rfl, rfl, rfl, by decide +kernel, rfl, by decide +kernel, by decide +kernel⟩

abbrev s_read_arms : Stmt := top 39
abbrev n_read_arms : List Str := ["source", "arms", "turn"]
abbrev p_read_arms : List Str := ["source"]
theorem sc_read_arms : FnScope n_read_arms p_read_arms (defScope s_read_arms) := ⟨rfl, rfl, rfl, by decide +kernel, rfl, by decide +kernel, by decide +kernel⟩

abbrev s_read_marked : Stmt := top 40
abbrev n_read_marked : List Str := ["source", "coat", "turn", "g"]
abbrev p_read_marked : List Str := ["source"]
theorem sc_read_marked : FnScope n_read_marked p_read_marked (defScope s_read_marked) := ⟨rfl, rfl, rfl, by decide +kernel, rfl, by decide +kernel, by decide +kernel⟩

abbrev s_read_coat : Stmt := top 41
abbrev n_read_coat : List Str := ["source", "deep", "kind", "coat", "many", "turn"]
abbrev p_read_coat : List Str := ["source", "deep"]
theorem sc_read_coat : FnScope n_read_coat p_read_coat (defScope s_read_coat) := ⟨rfl, rfl, rfl, by decide +kernel, rfl, by decide +kernel, by decide +kernel⟩

abbrev s_coat_of_bytes : Stmt := top 42
abbrev n_coat_of_bytes : List Str := ["some", "source", "coat"]
abbrev p_coat_of_bytes : List Str := ["some"]
theorem sc_coat_of_bytes : FnScope n_coat_of_bytes p_coat_of_bytes (defScope s_coat_of_bytes) := ⟨rfl, rfl, rfl, by decide +kernel, rfl, by decide +kernel, by decide +kernel⟩

abbrev s_marked_shown : Stmt := top 44
abbrev n_marked_shown : List Str := ["coat", "found", "g", "k"]
abbrev p_marked_shown : List Str := ["coat"]
theorem sc_marked_shown : FnScope n_marked_shown p_marked_shown (defScope s_marked_shown) := ⟨rfl, rfl, rfl, by decide +kernel, rfl, by decide +kernel, by decide +kernel⟩

abbrev s_coat_shown : Stmt := top 45
abbrev n_coat_shown : List Str := ["coat", "words", "one"]
abbrev p_coat_shown : List Str := ["coat"]
theorem sc_coat_shown : FnScope n_coat_shown p_coat_shown (defScope s_coat_shown) := ⟨rfl, rfl, rfl, by decide +kernel, rfl, by decide +kernel, by decide +kernel⟩

abbrev s_words : Stmt := top 48
abbrev n_words : List Str := ["c", "coat", "e", "text", "sign"]
abbrev p_words : List Str := ["c"]
theorem sc_words : FnScope n_words p_words (defScope s_words) := ⟨rfl, rfl, rfl, by decide +kernel, rfl, by decide +kernel, by decide +kernel⟩

def w_CHARGES : List V := [V.str "roundel", V.str "annulet", V.str "lozenge", V.str "mascle", V.str "fusil", V.str "billet", V.str "mullet", V.str "crescent", V.str "increscent", V.str "crosslet", V.str "saltorel", V.str "escutcheon", V.str "tower", V.str "sword", V.str "wheel", V.str "arrow"]
def w_COUNTS : List V := [V.str "one", V.str "two", V.str "three", V.str "four", V.str "five", V.str "six", V.str "seven", V.str "eight", V.str "nine", V.str "ten"]
def w_LINES : List V := [V.str "straight", V.str "wavy", V.str "embattled", V.str "indented", V.str "engrailed", V.str "invected"]
def w_MANNERS : List V := [V.str "rows", V.str "fess", V.str "pale", V.str "bend", V.str "bend sinister", V.str "chief", V.str "base"]
def w_ORDINARIES : List V := [V.str "chief", V.str "base", V.str "pale", V.str "fess", V.str "bend", V.str "bend sinister", V.str "chevron", V.str "cross", V.str "saltire", V.str "pile", V.str "bordure", V.str "canton", V.str "quarter"]
def w_SIZES : List V := [V.str "none", V.str "small", V.str "lesser", V.str "none", V.str "great"]
def w_TINCTURES : List V := [V.str "or", V.str "argent", V.str "gules", V.str "azure", V.str "sable", V.str "vert", V.str "purpure", V.str "ermine", V.str "vair"]
def w_VARIETIES : List V := [V.str "barry", V.str "paly", V.str "bendy", V.str "bendy sinister", V.str "chevronny", V.str "chequy", V.str "lozengy"]
def w_WAYS : List V := [V.str "pale", V.str "fess", V.str "bend", V.str "bend sinister", V.str "chevron", V.str "saltire"]
def dd_Layer_init : He.DefD := ⟨("Layer", some "__init__"), "__init__", "Layer.__init__", defArgs s_Layer_init, defBody s_Layer_init, defScope s_Layer_init, [], []⟩
def dd_Arms_init : He.DefD := ⟨("Arms", some "__init__"), "__init__", "Arms.__init__", defArgs s_Arms_init, defBody s_Arms_init, defScope s_Arms_init, [], []⟩
def dd_Coat_init : He.DefD := ⟨("Coat", some "__init__"), "__init__", "Coat.__init__", defArgs s_Coat_init, defBody s_Coat_init, defScope s_Coat_init, [], []⟩
def dd_NoCoat_init : He.DefD := ⟨("NoCoat", some "__init__"), "__init__", "NoCoat.__init__", defArgs s_NoCoat_init, defBody s_NoCoat_init, defScope s_NoCoat_init, [], []⟩
def dd_Bytes_init : He.DefD := ⟨("Bytes", some "__init__"), "__init__", "Bytes.__init__", defArgs s_Bytes_init, defBody s_Bytes_init, defScope s_Bytes_init, [], []⟩
def dd_line_words : He.DefD := ⟨("line_words", none), "line_words", "line_words", defArgs s_line_words, defBody s_line_words, defScope s_line_words, [], []⟩
def dd_field_words : He.DefD := ⟨("field_words", none), "field_words", "field_words", defArgs s_field_words, defBody s_field_words, defScope s_field_words, [], []⟩
def dd_group_words : He.DefD := ⟨("group_words", none), "group_words", "group_words", defArgs s_group_words, defBody s_group_words, defScope s_group_words, [], []⟩
def dd_layer_words : He.DefD := ⟨("layer_words", none), "layer_words", "layer_words", defArgs s_layer_words, defBody s_layer_words, defScope s_layer_words, [], []⟩
def dd_blazon_of : He.DefD := ⟨("blazon_of", none), "blazon_of", "blazon_of", defArgs s_blazon_of, defBody s_blazon_of, defScope s_blazon_of, [], []⟩
def dd_read_byte : He.DefD := ⟨("read_byte", none), "read_byte", "read_byte", defArgs s_read_byte, defBody s_read_byte, defScope s_read_byte, [], []⟩
def dd_read_tinctures : He.DefD := ⟨("read_tinctures", none), "read_tinctures", "read_tinctures", defArgs s_read_tinctures, defBody s_read_tinctures, defScope s_read_tinctures, [], []⟩
def dd_read_field : He.DefD := ⟨("read_field", none), "read_field", "read_field", defArgs s_read_field, defBody s_read_field, defScope s_read_field, [], []⟩
def dd_read_fill : He.DefD := ⟨("read_fill", none), "read_fill", "read_fill", defArgs s_read_fill, defBody s_read_fill, defScope s_read_fill, [], []⟩
def dd_read_layer : He.DefD := ⟨("read_layer", none), "read_layer", "read_layer", defArgs s_read_layer, defBody s_read_layer, defScope s_read_layer, [], []⟩
def dd_read_arms : He.DefD := ⟨("read_arms", none), "read_arms", "read_arms", defArgs s_read_arms, defBody s_read_arms, defScope s_read_arms, [], []⟩
def dd_read_marked : He.DefD := ⟨("read_marked", none), "read_marked", "read_marked", defArgs s_read_marked, defBody s_read_marked, defScope s_read_marked, [], []⟩
def dd_read_coat : He.DefD := ⟨("read_coat", none), "read_coat", "read_coat", defArgs s_read_coat, defBody s_read_coat, defScope s_read_coat, [], []⟩
def dd_coat_of_bytes : He.DefD := ⟨("coat_of_bytes", none), "coat_of_bytes", "coat_of_bytes", defArgs s_coat_of_bytes, defBody s_coat_of_bytes, defScope s_coat_of_bytes, [], []⟩
def dd_marked_shown : He.DefD := ⟨("marked_shown", none), "marked_shown", "marked_shown", defArgs s_marked_shown, defBody s_marked_shown, defScope s_marked_shown, [], []⟩
def dd_coat_shown : He.DefD := ⟨("coat_shown", none), "coat_shown", "coat_shown", defArgs s_coat_shown, defBody s_coat_shown, defScope s_coat_shown, [], []⟩
def dd_words : He.DefD := ⟨("words", none), "words", "words", defArgs s_words, defBody s_words, defScope s_words, [], []⟩
/-- what the top has written -/
structure Txt (w : World) (K : PySem.W.Frag) (mg : Str → Option Value) : Prop where
  g_CHARGES : mg "CHARGES" = some (.ref (He.ga K "CHARGES"))
  t_CHARGES : ∀ H : Hp, SqT K H (He.ga K "CHARGES") w_CHARGES
  g_COUNTS : mg "COUNTS" = some (.ref (He.ga K "COUNTS"))
  t_COUNTS : ∀ H : Hp, SqT K H (He.ga K "COUNTS") w_COUNTS
  i_GROUP : ∃ t, mg "GROUP" = some (.int 1 t)
  g_LINES : mg "LINES" = some (.ref (He.ga K "LINES"))
  t_LINES : ∀ H : Hp, SqT K H (He.ga K "LINES") w_LINES
  g_MANNERS : mg "MANNERS" = some (.ref (He.ga K "MANNERS"))
  t_MANNERS : ∀ H : Hp, SqT K H (He.ga K "MANNERS") w_MANNERS
  i_MARKED : ∃ t, mg "MARKED" = some (.int 0 t)
  i_MOST_DEEP : ∃ t, mg "MOST_DEEP" = some (.int 4 t)
  i_MOST_LAYERS : ∃ t, mg "MOST_LAYERS" = some (.int 8 t)
  i_MOST_MARKS : ∃ t, mg "MOST_MARKS" = some (.int 60 t)
  i_NO_COAT : ∃ t, mg "NO_COAT" = some (.int (-1) t)
  g_ORDINARIES : mg "ORDINARIES" = some (.ref (He.ga K "ORDINARIES"))
  t_ORDINARIES : ∀ H : Hp, SqT K H (He.ga K "ORDINARIES") w_ORDINARIES
  i_ORDINARY : ∃ t, mg "ORDINARY" = some (.int 0 t)
  i_PARTED : ∃ t, mg "PARTED" = some (.int 1 t)
  i_PLAIN : ∃ t, mg "PLAIN" = some (.int 0 t)
  i_QUARTERLY : ∃ t, mg "QUARTERLY" = some (.int 1 t)
  z_SEVERAL : ∃ t, mg "SEVERAL" = some (.str "s" t)
  g_SIZES : mg "SIZES" = some (.ref (He.ga K "SIZES"))
  t_SIZES : ∀ H : Hp, SqT K H (He.ga K "SIZES") w_SIZES
  g_TINCTURES : mg "TINCTURES" = some (.ref (He.ga K "TINCTURES"))
  t_TINCTURES : ∀ H : Hp, SqT K H (He.ga K "TINCTURES") w_TINCTURES
  i_VARIED : ∃ t, mg "VARIED" = some (.int 2 t)
  g_VARIETIES : mg "VARIETIES" = some (.ref (He.ga K "VARIETIES"))
  t_VARIETIES : ∀ H : Hp, SqT K H (He.ga K "VARIETIES") w_VARIETIES
  z_VOWELS : ∃ t, mg "VOWELS" = some (.str "aeiou" t)
  g_WAYS : mg "WAYS" = some (.ref (He.ga K "WAYS"))
  t_WAYS : ∀ H : Hp, SqT K H (He.ga K "WAYS") w_WAYS
  f_int : mg "int" = none
  f_len : mg "len" = none
  f_ord : mg "ord" = none
  f_range : mg "range" = none
  f_str : mg "str" = none
  g_Layer : mg "Layer" = some (.ref (He.ga K "Layer"))
  di_Layer : DefI K "Layer" "Layer.__init__" s_Layer_init p_Layer_init
  c_Layer : Cls K (He.ga K "Layer")
  m_Layer : Mk K (He.ga K "Layer") (He.ma K (He.ga K "Layer") "__init__")
  n_Layer_kind : NoAttr K (He.ga K "Layer") "kind"
  n_Layer_numbers : NoAttr K (He.ga K "Layer") "numbers"
  n_Layer_fill : NoAttr K (He.ga K "Layer") "fill"
  g_Arms : mg "Arms" = some (.ref (He.ga K "Arms"))
  di_Arms : DefI K "Arms" "Arms.__init__" s_Arms_init p_Arms_init
  c_Arms : Cls K (He.ga K "Arms")
  m_Arms : Mk K (He.ga K "Arms") (He.ma K (He.ga K "Arms") "__init__")
  n_Arms_field : NoAttr K (He.ga K "Arms") "field"
  n_Arms_layers : NoAttr K (He.ga K "Arms") "layers"
  g_Coat : mg "Coat" = some (.ref (He.ga K "Coat"))
  di_Coat : DefI K "Coat" "Coat.__init__" s_Coat_init p_Coat_init
  c_Coat : Cls K (He.ga K "Coat")
  m_Coat : Mk K (He.ga K "Coat") (He.ma K (He.ga K "Coat") "__init__")
  n_Coat_kind : NoAttr K (He.ga K "Coat") "kind"
  n_Coat_arms : NoAttr K (He.ga K "Coat") "arms"
  n_Coat_canton : NoAttr K (He.ga K "Coat") "canton"
  n_Coat_marks : NoAttr K (He.ga K "Coat") "marks"
  n_Coat_coats : NoAttr K (He.ga K "Coat") "coats"
  g_NoCoat : mg "NoCoat" = some (.ref (He.ga K "NoCoat"))
  di_NoCoat : DefI K "NoCoat" "NoCoat.__init__" s_NoCoat_init p_NoCoat_init
  x_NoCoat : ErrT K "NoCoat" ["place"]
  g_Bytes : mg "Bytes" = some (.ref (He.ga K "Bytes"))
  di_Bytes : DefI K "Bytes" "Bytes.__init__" s_Bytes_init p_Bytes_init
  c_Bytes : Cls K (He.ga K "Bytes")
  m_Bytes : Mk K (He.ga K "Bytes") (He.ma K (He.ga K "Bytes") "__init__")
  n_Bytes_some : NoAttr K (He.ga K "Bytes") "some"
  n_Bytes_at : NoAttr K (He.ga K "Bytes") "at"
  d_line_words : Def K mg "line_words" s_line_words p_line_words
  d_field_words : Def K mg "field_words" s_field_words p_field_words
  d_group_words : Def K mg "group_words" s_group_words p_group_words
  d_layer_words : Def K mg "layer_words" s_layer_words p_layer_words
  d_blazon_of : Def K mg "blazon_of" s_blazon_of p_blazon_of
  d_read_byte : Def K mg "read_byte" s_read_byte p_read_byte
  d_read_tinctures : Def K mg "read_tinctures" s_read_tinctures p_read_tinctures
  d_read_field : Def K mg "read_field" s_read_field p_read_field
  d_read_fill : Def K mg "read_fill" s_read_fill p_read_fill
  d_read_layer : Def K mg "read_layer" s_read_layer p_read_layer
  d_read_arms : Def K mg "read_arms" s_read_arms p_read_arms
  d_read_marked : Def K mg "read_marked" s_read_marked p_read_marked
  d_read_coat : Def K mg "read_coat" s_read_coat p_read_coat
  d_coat_of_bytes : Def K mg "coat_of_bytes" s_coat_of_bytes p_coat_of_bytes
  d_marked_shown : Def K mg "marked_shown" s_marked_shown p_marked_shown
  d_coat_shown : Def K mg "coat_shown" s_coat_shown p_coat_shown
  d_words : Def K mg "words" s_words p_words
def fa : List He.Fa := [.glo "CHARGES", .glo "COUNTS", .int "GROUP" 1, .glo "LINES", .glo "MANNERS", .int "MARKED" 0, .int "MOST_DEEP" 4, .int "MOST_LAYERS" 8, .int "MOST_MARKS" 60, .int "NO_COAT" (-1), .glo "ORDINARIES", .int "ORDINARY" 0, .int "PARTED" 1, .int "PLAIN" 0, .int "QUARTERLY" 1, .str "SEVERAL" "s", .glo "SIZES", .glo "TINCTURES", .int "VARIED" 2, .glo "VARIETIES", .str "VOWELS" "aeiou", .glo "WAYS", .free "int", .free "len", .free "ord", .free "range", .free "str", .glo "Layer", .cls "Layer", .mkr "Layer", .noat "Layer" "kind", .noat "Layer" "numbers", .noat "Layer" "fill", .glo "Arms", .cls "Arms", .mkr "Arms", .noat "Arms" "field", .noat "Arms" "layers", .glo "Coat", .cls "Coat", .mkr "Coat", .noat "Coat" "kind", .noat "Coat" "arms", .noat "Coat" "canton", .noat "Coat" "marks", .noat "Coat" "coats", .glo "NoCoat", .glo "Bytes", .cls "Bytes", .mkr "Bytes", .noat "Bytes" "some", .noat "Bytes" "at", .glo "line_words", .glo "field_words", .glo "group_words", .glo "layer_words", .glo "blazon_of", .glo "read_byte", .glo "read_tinctures", .glo "read_field", .glo "read_fill", .glo "read_layer", .glo "read_arms", .glo "read_marked", .glo "read_coat", .glo "coat_of_bytes", .glo "marked_shown", .glo "coat_shown", .glo "words"]
def fn : List He.DefD := [dd_Layer_init, dd_Arms_init, dd_Coat_init, dd_NoCoat_init, dd_Bytes_init, dd_line_words, dd_field_words, dd_group_words, dd_layer_words, dd_blazon_of, dd_read_byte, dd_read_tinctures, dd_read_field, dd_read_fill, dd_read_layer, dd_read_arms, dd_read_marked, dd_read_coat, dd_coat_of_bytes, dd_marked_shown, dd_coat_shown, dd_words]
def tabs : List He.Tab := []
def exb (K : PySem.W.Frag) : Bool := He.tupB K "CHARGES" [.str "roundel", .str "annulet", .str "lozenge", .str "mascle", .str "fusil", .str "billet", .str "mullet", .str "crescent", .str "increscent", .str "crosslet", .str "saltorel", .str "escutcheon", .str "tower", .str "sword", .str "wheel", .str "arrow"] && (He.tupB K "COUNTS" [.str "one", .str "two", .str "three", .str "four", .str "five", .str "six", .str "seven", .str "eight", .str "nine", .str "ten"] && (He.tupB K "LINES" [.str "straight", .str "wavy", .str "embattled", .str "indented", .str "engrailed", .str "invected"] && (He.tupB K "MANNERS" [.str "rows", .str "fess", .str "pale", .str "bend", .str "bend sinister", .str "chief", .str "base"] && (He.tupB K "ORDINARIES" [.str "chief", .str "base", .str "pale", .str "fess", .str "bend", .str "bend sinister", .str "chevron", .str "cross", .str "saltire", .str "pile", .str "bordure", .str "canton", .str "quarter"] && (He.tupB K "SIZES" [.str "none", .str "small", .str "lesser", .str "none", .str "great"] && (He.tupB K "TINCTURES" [.str "or", .str "argent", .str "gules", .str "azure", .str "sable", .str "vert", .str "purpure", .str "ermine", .str "vair"] && (He.tupB K "VARIETIES" [.str "barry", .str "paly", .str "bendy", .str "bendy sinister", .str "chevronny", .str "chequy", .str "lozengy"] && (He.tupB K "WAYS" [.str "pale", .str "fess", .str "bend", .str "bend sinister", .str "chevron", .str "saltire"] && (errB K "NoCoat" ["place"])))))))))
theorem txt_of {w : World} {K : PySem.W.Frag} {h : Heap} {mg : Str → Option Value} (X : K.In h) (G : h.Ns mainGlobals mg) (c : He.SaysT fa fn tabs w K) (e : exb K = true) : Txt w K mg := by
  unfold exb at e
  obtain ⟨e0, r0⟩ := He.ba e
  obtain ⟨e1, r1⟩ := He.ba r0
  obtain ⟨e2, r2⟩ := He.ba r1
  obtain ⟨e3, r3⟩ := He.ba r2
  obtain ⟨e4, r4⟩ := He.ba r3
  obtain ⟨e5, r5⟩ := He.ba r4
  obtain ⟨e6, r6⟩ := He.ba r5
  obtain ⟨e7, r7⟩ := He.ba r6
  obtain ⟨e8, e9⟩ := He.ba r7
  exact {
    g_CHARGES := He.glo_ok X G (fact_of c.d 0 rfl)
    t_CHARGES := fun H => He.tupB_ok e0 H
    g_COUNTS := He.glo_ok X G (fact_of c.d 1 rfl)
    t_COUNTS := fun H => He.tupB_ok e1 H
    i_GROUP := He.int_ok X G (fact_of c.d 2 rfl)
    g_LINES := He.glo_ok X G (fact_of c.d 3 rfl)
    t_LINES := fun H => He.tupB_ok e2 H
    g_MANNERS := He.glo_ok X G (fact_of c.d 4 rfl)
    t_MANNERS := fun H => He.tupB_ok e3 H
    i_MARKED := He.int_ok X G (fact_of c.d 5 rfl)
    i_MOST_DEEP := He.int_ok X G (fact_of c.d 6 rfl)
    i_MOST_LAYERS := He.int_ok X G (fact_of c.d 7 rfl)
    i_MOST_MARKS := He.int_ok X G (fact_of c.d 8 rfl)
    i_NO_COAT := He.int_ok X G (fact_of c.d 9 rfl)
    g_ORDINARIES := He.glo_ok X G (fact_of c.d 10 rfl)
    t_ORDINARIES := fun H => He.tupB_ok e4 H
    i_ORDINARY := He.int_ok X G (fact_of c.d 11 rfl)
    i_PARTED := He.int_ok X G (fact_of c.d 12 rfl)
    i_PLAIN := He.int_ok X G (fact_of c.d 13 rfl)
    i_QUARTERLY := He.int_ok X G (fact_of c.d 14 rfl)
    z_SEVERAL := He.str_ok X G (fact_of c.d 15 rfl)
    g_SIZES := He.glo_ok X G (fact_of c.d 16 rfl)
    t_SIZES := fun H => He.tupB_ok e5 H
    g_TINCTURES := He.glo_ok X G (fact_of c.d 17 rfl)
    t_TINCTURES := fun H => He.tupB_ok e6 H
    i_VARIED := He.int_ok X G (fact_of c.d 18 rfl)
    g_VARIETIES := He.glo_ok X G (fact_of c.d 19 rfl)
    t_VARIETIES := fun H => He.tupB_ok e7 H
    z_VOWELS := He.str_ok X G (fact_of c.d 20 rfl)
    g_WAYS := He.glo_ok X G (fact_of c.d 21 rfl)
    t_WAYS := fun H => He.tupB_ok e8 H
    f_int := He.free_ok X G (fact_of c.d 22 rfl)
    f_len := He.free_ok X G (fact_of c.d 23 rfl)
    f_ord := He.free_ok X G (fact_of c.d 24 rfl)
    f_range := He.free_ok X G (fact_of c.d 25 rfl)
    f_str := He.free_ok X G (fact_of c.d 26 rfl)
    g_Layer := He.glo_ok X G (fact_of c.d 27 rfl)
    di_Layer := by
      obtain ⟨fd, D⟩ := c.d.def_ 0 (d := dd_Layer_init) rfl
      exact ⟨fd, D, FunD.bindsN D fun _ _ _ _ _ _ us hl => match us, hl with | [_, _, _, _], _ => rfl⟩
    c_Layer := He.cls_ok (fact_of c.d 28 rfl)
    m_Layer := He.mkr_ok (fact_of c.d 29 rfl)
    n_Layer_kind := He.noat_ok (fact_of c.d 30 rfl)
    n_Layer_numbers := He.noat_ok (fact_of c.d 31 rfl)
    n_Layer_fill := He.noat_ok (fact_of c.d 32 rfl)
    g_Arms := He.glo_ok X G (fact_of c.d 33 rfl)
    di_Arms := by
      obtain ⟨fd, D⟩ := c.d.def_ 1 (d := dd_Arms_init) rfl
      exact ⟨fd, D, FunD.bindsN D fun _ _ _ _ _ _ us hl => match us, hl with | [_, _], _ => rfl⟩
    c_Arms := He.cls_ok (fact_of c.d 34 rfl)
    m_Arms := He.mkr_ok (fact_of c.d 35 rfl)
    n_Arms_field := He.noat_ok (fact_of c.d 36 rfl)
    n_Arms_layers := He.noat_ok (fact_of c.d 37 rfl)
    g_Coat := He.glo_ok X G (fact_of c.d 38 rfl)
    di_Coat := by
      obtain ⟨fd, D⟩ := c.d.def_ 2 (d := dd_Coat_init) rfl
      exact ⟨fd, D, FunD.bindsN D fun _ _ _ _ _ _ us hl => match us, hl with | [_, _], _ => rfl⟩
    c_Coat := He.cls_ok (fact_of c.d 39 rfl)
    m_Coat := He.mkr_ok (fact_of c.d 40 rfl)
    n_Coat_kind := He.noat_ok (fact_of c.d 41 rfl)
    n_Coat_arms := He.noat_ok (fact_of c.d 42 rfl)
    n_Coat_canton := He.noat_ok (fact_of c.d 43 rfl)
    n_Coat_marks := He.noat_ok (fact_of c.d 44 rfl)
    n_Coat_coats := He.noat_ok (fact_of c.d 45 rfl)
    g_NoCoat := He.glo_ok X G (fact_of c.d 46 rfl)
    di_NoCoat := by
      obtain ⟨fd, D⟩ := c.d.def_ 3 (d := dd_NoCoat_init) rfl
      exact ⟨fd, D, FunD.bindsN D fun _ _ _ _ _ _ us hl => match us, hl with | [_, _], _ => rfl⟩
    x_NoCoat := errB_ok e9
    g_Bytes := He.glo_ok X G (fact_of c.d 47 rfl)
    di_Bytes := by
      obtain ⟨fd, D⟩ := c.d.def_ 4 (d := dd_Bytes_init) rfl
      exact ⟨fd, D, FunD.bindsN D fun _ _ _ _ _ _ us hl => match us, hl with | [_, _], _ => rfl⟩
    c_Bytes := He.cls_ok (fact_of c.d 48 rfl)
    m_Bytes := He.mkr_ok (fact_of c.d 49 rfl)
    n_Bytes_some := He.noat_ok (fact_of c.d 50 rfl)
    n_Bytes_at := He.noat_ok (fact_of c.d 51 rfl)
    d_line_words := by
      obtain ⟨fd, D⟩ := c.d.def_ 5 (d := dd_line_words) rfl
      exact ⟨⟨fd, D, FunD.bindsN D fun _ _ _ _ _ _ us hl => match us, hl with | [_], _ => rfl⟩, He.glo_ok X G (fact_of c.d 52 rfl)⟩
    d_field_words := by
      obtain ⟨fd, D⟩ := c.d.def_ 6 (d := dd_field_words) rfl
      exact ⟨⟨fd, D, FunD.bindsN D fun _ _ _ _ _ _ us hl => match us, hl with | [_], _ => rfl⟩, He.glo_ok X G (fact_of c.d 53 rfl)⟩
    d_group_words := by
      obtain ⟨fd, D⟩ := c.d.def_ 7 (d := dd_group_words) rfl
      exact ⟨⟨fd, D, FunD.bindsN D fun _ _ _ _ _ _ us hl => match us, hl with | [_], _ => rfl⟩, He.glo_ok X G (fact_of c.d 54 rfl)⟩
    d_layer_words := by
      obtain ⟨fd, D⟩ := c.d.def_ 8 (d := dd_layer_words) rfl
      exact ⟨⟨fd, D, FunD.bindsN D fun _ _ _ _ _ _ us hl => match us, hl with | [_], _ => rfl⟩, He.glo_ok X G (fact_of c.d 55 rfl)⟩
    d_blazon_of := by
      obtain ⟨fd, D⟩ := c.d.def_ 9 (d := dd_blazon_of) rfl
      exact ⟨⟨fd, D, FunD.bindsN D fun _ _ _ _ _ _ us hl => match us, hl with | [_], _ => rfl⟩, He.glo_ok X G (fact_of c.d 56 rfl)⟩
    d_read_byte := by
      obtain ⟨fd, D⟩ := c.d.def_ 10 (d := dd_read_byte) rfl
      exact ⟨⟨fd, D, FunD.bindsN D fun _ _ _ _ _ _ us hl => match us, hl with | [_, _, _], _ => rfl⟩, He.glo_ok X G (fact_of c.d 57 rfl)⟩
    d_read_tinctures := by
      obtain ⟨fd, D⟩ := c.d.def_ 11 (d := dd_read_tinctures) rfl
      exact ⟨⟨fd, D, FunD.bindsN D fun _ _ _ _ _ _ us hl => match us, hl with | [_], _ => rfl⟩, He.glo_ok X G (fact_of c.d 58 rfl)⟩
    d_read_field := by
      obtain ⟨fd, D⟩ := c.d.def_ 12 (d := dd_read_field) rfl
      exact ⟨⟨fd, D, FunD.bindsN D fun _ _ _ _ _ _ us hl => match us, hl with | [_], _ => rfl⟩, He.glo_ok X G (fact_of c.d 59 rfl)⟩
    d_read_fill := by
      obtain ⟨fd, D⟩ := c.d.def_ 13 (d := dd_read_fill) rfl
      exact ⟨⟨fd, D, FunD.bindsN D fun _ _ _ _ _ _ us hl => match us, hl with | [_, _], _ => rfl⟩, He.glo_ok X G (fact_of c.d 60 rfl)⟩
    d_read_layer := by
      obtain ⟨fd, D⟩ := c.d.def_ 14 (d := dd_read_layer) rfl
      exact ⟨⟨fd, D, FunD.bindsN D fun _ _ _ _ _ _ us hl => match us, hl with | [_, _], _ => rfl⟩, He.glo_ok X G (fact_of c.d 61 rfl)⟩
    d_read_arms := by
      obtain ⟨fd, D⟩ := c.d.def_ 15 (d := dd_read_arms) rfl
      exact ⟨⟨fd, D, FunD.bindsN D fun _ _ _ _ _ _ us hl => match us, hl with | [_], _ => rfl⟩, He.glo_ok X G (fact_of c.d 62 rfl)⟩
    d_read_marked := by
      obtain ⟨fd, D⟩ := c.d.def_ 16 (d := dd_read_marked) rfl
      exact ⟨⟨fd, D, FunD.bindsN D fun _ _ _ _ _ _ us hl => match us, hl with | [_], _ => rfl⟩, He.glo_ok X G (fact_of c.d 63 rfl)⟩
    d_read_coat := by
      obtain ⟨fd, D⟩ := c.d.def_ 17 (d := dd_read_coat) rfl
      exact ⟨⟨fd, D, FunD.bindsN D fun _ _ _ _ _ _ us hl => match us, hl with | [_, _], _ => rfl⟩, He.glo_ok X G (fact_of c.d 64 rfl)⟩
    d_coat_of_bytes := by
      obtain ⟨fd, D⟩ := c.d.def_ 18 (d := dd_coat_of_bytes) rfl
      exact ⟨⟨fd, D, FunD.bindsN D fun _ _ _ _ _ _ us hl => match us, hl with | [_], _ => rfl⟩, He.glo_ok X G (fact_of c.d 65 rfl)⟩
    d_marked_shown := by
      obtain ⟨fd, D⟩ := c.d.def_ 19 (d := dd_marked_shown) rfl
      exact ⟨⟨fd, D, FunD.bindsN D fun _ _ _ _ _ _ us hl => match us, hl with | [_], _ => rfl⟩, He.glo_ok X G (fact_of c.d 66 rfl)⟩
    d_coat_shown := by
      obtain ⟨fd, D⟩ := c.d.def_ 20 (d := dd_coat_shown) rfl
      exact ⟨⟨fd, D, FunD.bindsN D fun _ _ _ _ _ _ us hl => match us, hl with | [_], _ => rfl⟩, He.glo_ok X G (fact_of c.d 67 rfl)⟩
    d_words := by
      obtain ⟨fd, D⟩ := c.d.def_ 21 (d := dd_words) rfl
      exact ⟨⟨fd, D, FunD.bindsN D fun _ _ _ _ _ _ us hl => match us, hl with | [_], _ => rfl⟩, He.glo_ok X G (fact_of c.d 68 rfl)⟩ }
end Hc
namespace Hc
open PySem PySem.Spec PyProof.Rows L2
set_option hygiene false
local macro_rules | `(tactic| walk_at "hp") => `(tactic| first | assumption | exact Src.ob (by assumption) | exact upd_same)
local macro_rules | `(tactic| walk_at "sq") => `(tactic| first | assumption | exact Src.sq (by assumption) | exact SqL.of (by assumption) | exact SqL.of upd_same | exact SqT.of (by assumption) | exact SqT.of upd_same)
local macro_rules | `(tactic| walk_at "cl") => `(tactic| with_reducible first | exact T.c_Bytes | exact T.c_Coat | exact T.c_Arms | exact T.c_Layer)
local macro_rules | `(tactic| walk_at "na") => `(tactic| with_reducible first | exact T.n_Bytes_some | exact T.n_Bytes_at | exact T.n_Coat_kind | exact T.n_Coat_arms | exact T.n_Coat_canton | exact T.n_Coat_marks | exact T.n_Coat_coats | exact T.n_Arms_field | exact T.n_Arms_layers | exact T.n_Layer_kind | exact T.n_Layer_numbers | exact T.n_Layer_fill)
local macro_rules | `(tactic| walk_at "ai") => `(tactic| first | assumption | exact atI_nat (by assumption) | rfl)
local macro_rules | `(tactic| walk_at "rd1") => `(tactic| first
  | refine ⟨_, rfl, ?_⟩
  | refine ⟨rfl, ?_⟩
  | refine ⟨_, _, rfl, rfl, ?_⟩
  | refine ⟨_, _, _, _, _, rfl, (by walk_at "hp"), (by walk_at "cl"), (by walk_at "na"), (by rfl), ?_⟩
  | refine ⟨_, _, _, _, rfl, (by walk_at "hp"), (by walk_at "cl"), (by walk_at "na"), Nat.le_of_ble_eq_true rfl, ?_⟩
  | refine ⟨_, _, _, _, rfl, rfl, (by walk_at "sq"), (by walk_at "ai"), ?_⟩
  | refine ⟨_, _, rfl, (by first | exact Or.inl (by walk_at "sq") | exact Or.inr (by walk_at "sq")), ?_⟩
  | refine ⟨(by walk_at "ar"), ?_⟩)
local macro_rules | `(tactic| walk_at "ar") => `(tactic| first | exact (show CDiv _ _ from ⟨by decide, by decide⟩) | exact (show (0 : Int) < _ from by decide) | exact (show CMul _ _ from .inl ⟨by omega, by omega⟩) | exact (show CMul _ _ from .inr ⟨by omega, by omega⟩))
local macro_rules | `(tactic| walk_at "rd") => `(tactic| repeat walk_at "rd1")
local macro_rules | `(tactic| walk_at "fa") => `(tactic| first | exact ⟨_, rfl, (by omega), rfl⟩ | exact ⟨_, _, rfl, (by omega), rfl⟩ | exact ⟨_, _, _, rfl, (by omega), rfl⟩ | exact ⟨_, _, _, _, rfl, (by omega), rfl⟩ | exact ⟨_, _, _, _, _, rfl, (by omega), rfl⟩)
local macro_rules | `(tactic| walk_at "vr") => `(tactic| first
  | exact v_var (by rfl)
  | exact v_c
  | (apply v_i0 <;> walk_at "vr")
  | (apply v_i <;> first | walk_at "ar" | walk_at "vr")
  | (apply v_neg <;> walk_at "vr")
  | (apply v_eq <;> walk_at "vr")
  | (apply v_eqB <;> walk_at "vr")
  | (apply v_ne <;> walk_at "vr")
  | (apply v_neB <;> walk_at "vr")
  | (apply v_chain (g := fun _ _ => _) (g' := fun _ _ => _) <;> walk_at "vr")
  | (apply v_and <;> walk_at "vr")
  | (apply v_or <;> walk_at "vr")
  | (apply v_not <;> walk_at "vr")
  | (apply v_ifI <;> walk_at "vr")
  | (apply v_ifB <;> walk_at "vr")
  | (apply v_call <;> first | walk_at "fa" | walk_at "vr")
  | (apply v_abs <;> walk_at "vr")
  | (apply v_min <;> walk_at "vr")
  | exact va_nil
  | (apply va_cons <;> walk_at "vr")
  | (apply a_test <;> walk_at "vr")
  | (apply a_B <;> walk_at "vr")
  | (apply a_and <;> walk_at "vr")
  | (apply a_or <;> walk_at "vr")
  | (apply a_not <;> walk_at "vr"))
local macro_rules | `(tactic| walk_at "rs") => `(tactic| first
  | (apply r_ret; walk_at "vr")
  | (apply r_set; walk_at "vr"; walk_at "rs")
  | (apply r_ifI; walk_at "vr"; intro _; walk_at "rs"; intro _; walk_at "rs")
  | (apply r_ifB; walk_at "vr"; intro _; walk_at "rs"; intro _; walk_at "rs"))

section
variable {P : Program} {w : World} {K : PySem.W.Frag} {mg : Str → Option Value} {base : Heap}
theorem ok_NoCoat_init (T : Txt w K mg) : Exq P w K mg base 1 "NoCoat" p_NoCoat_init (spErr1 K "NoCoat") := by
  refine ⟨T.di_NoCoat.ok sc_NoCoat_init (fun vs H Q E h => by obtain ⟨_, _, rfl, _⟩ := h; rfl) ?_, T.x_NoCoat.T, T.x_NoCoat.iC, T.x_NoCoat.tI, T.g_NoCoat⟩
  intro cdv A outer s0 H vs Q E hr h
  refine ⟨_, (pss_one (ps_ost (pv 0) (pv 1))), ?_⟩
  try dsimp only [cxOf]
  obtain ⟨a, v, rfl, ha, k⟩ := h
  exact ⟨_, rfl, _, rfl, a, _, rfl, T.x_NoCoat.T, T.x_NoCoat.no _ (by simp), .inl ⟨ha, fun dx hd ne => k dx hd ne⟩⟩
theorem ok_read_byte (T : Txt w K mg) (q_NoCoat : Exq P w K mg base 1 "NoCoat" p_NoCoat_init (spErr1 K "NoCoat")) : Cal P w K mg base (L2.CX P w) 3 "read_byte" p_read_byte (spByte K) := by
  refine T.d_read_byte.cal sc_read_byte (fun vs H Q E h => by obtain ⟨_, _, _, _, _, _, rfl, _⟩ := h; rfl) ?_
  intro cdv A outer s0 H vs Q E hr h
  have nd := sc_read_byte.nd
  have tk := tkX (P := P) (w := w) (K := K) (mg := mg) (base := base) (N := n_read_byte) (q := "read_byte") (sc := defScope s_read_byte) (f := He.ga K "read_byte") (cdv := cdv) (A := A) (outer := outer) (s := s0) (H := H) (E := E)
  have pX := paX (P := P) (w := w) (K := K) (mg := mg) (base := base) (N := n_read_byte) (q := "read_byte") (sc := defScope s_read_byte) (f := He.ga K "read_byte") (cdv := cdv) (A := A) (outer := outer) (s := s0) (H := H) (E := E)
  have po := poX (CX := L2.CX P w) (P := P) (w := w) (K := K) (mg := mg) (base := base) (N := n_read_byte) (q := "read_byte") (sc := defScope s_read_byte) (f := He.ga K "read_byte") (cdv := cdv) (A := A) (outer := outer) (s := s0) (H := H) (E := E)
  have h_NoCoat : Room (2) _ := hr.mono (by omega)
  refine ⟨_, (pss_cons (ps_set (i := 3) nd rfl (Or.inl rfl) (pe_fld (pv 0) rfl))
      (pss_cons (ps_if (PW.pt (pw_or (pt_cmpR op_ge (pv 3) (pe_callB call_len_seq (by rfl) T.f_len PySem.boot_len (pa_cons (pe_fld (pv 0) rfl) pa_nil)) (nomark _)) (pw_or1 (pt_not (pt_chain op_le op_le (pv 1) (pe_ix ix_list (pe_fld (pv 0) rfl) (pv 3) (fun _ _ => rfl)) (pv 2)))))) (pss_one (ps_raise rfl tk (pmk_exq q_NoCoat (h_NoCoat) (by exact (pa_cons (pv 3) pa_nil))))) pss_nil)
      (pss_cons (ps_fld (pv 0) (pe_op op_add (pv 3) pe_int) rfl)
      (pss_one (ps_ret (pe_ix ix_list (pe_fld (pv 0) rfl) (pv 3) (fun _ _ => rfl))))))), ?_⟩
  try dsimp only [cxOf]
  clear h_NoCoat po pX tk nd
  obtain ⟨⟨lo, hi⟩, s, dx, cc, bs, k, rfl, _, S, R⟩ := h
  walk_at "rd"
  rw [List.length_map]
  have fail : Sh.numAt lo hi Sh.ANY k (bs.drop k) = .error k → tMkO (He.ga K "NoCoat") (spErr1 K "NoCoat") [] (tCons (tVar 3) tNil) [some (.ref s), some (.int lo), some (.int hi), some (.int k)] H (fun cls d H' => E cls d H') := fun e =>
    ⟨_, rfl, raise1 fun d H' sa _ hd => R.err k e d H' (.same sa) hd⟩
  refine iteB (fun c => fail ?_) fun c => ?_
  · have c' : bs.length ≤ k := by simpa using c
    rw [List.drop_eq_nil_of_le c']
    rfl
  · have c' : k < bs.length := by simpa using c
    have hb : (bs.map bv)[k]? = some (bv bs[k]) := by simp [c']
    have ed : bs.drop k = bs[k] :: bs.drop (k + 1) := List.drop_eq_getElem_cons c'
    have c5 : bs[k].toNat < 256 := bs[k].toNat_lt
    walk_at "rd"
    refine iteB (fun c1 => ?_) fun c1 => ?_
    · walk_at "rd"
      show if (!decide ((bs[k].toNat : Int) ≤ hi)) = true then _ else _
      refine iteB (fun c2 => fail ?_) fun c2 => ?_
      · rw [ed]
        exact num_no (.inr (.inl (by simp at c2; omega)))
      · have e := ed ▸ num_ok (p := k) (r := bs.drop (k + 1)) (x := Sh.ANY) (b := bs[k]) (lo := lo) (hi := hi) (by have z := of_decide_eq_true c1; omega) (by simp at c2; omega) (by unfold Sh.ANY; omega)
        walk_at "rd"
        have S1 := S.put (j := k + 1) (fs := putF "at" (.int ((k : Int) + 1)) (srcF cc k)) rfl (by omega)
        walk_at "rd"
        exact R.ok _ (k + 1) e _ _ Bt.refl.put S1 rfl
    · refine ⟨_, rfl, ?_⟩
      refine iteB (fun _ => fail ?_) fun c2 => (by cases c2)
      rw [ed]
      exact num_no (.inl (by have z := of_decide_eq_false c1; omega))
end
end Hc

namespace Hc
open PySem PySem.Spec PyProof.Rows L2
open Sh ShMarsh
set_option hygiene false
local macro_rules | `(tactic| walk_at "hp") => `(tactic| first | assumption | exact Src.ob (by assumption) | exact upd_same)
local macro_rules | `(tactic| walk_at "sq") => `(tactic| first | assumption | exact Src.sq (by assumption) | exact SqL.of (by assumption) | exact SqL.of upd_same | exact SqT.of (by assumption) | exact SqT.of upd_same)
local macro_rules | `(tactic| walk_at "cl") => `(tactic| with_reducible first | exact T.c_Bytes | exact T.c_Coat | exact T.c_Arms | exact T.c_Layer)
local macro_rules | `(tactic| walk_at "na") => `(tactic| with_reducible first | exact T.n_Bytes_some | exact T.n_Bytes_at | exact T.n_Coat_kind | exact T.n_Coat_arms | exact T.n_Coat_canton | exact T.n_Coat_marks | exact T.n_Coat_coats | exact T.n_Arms_field | exact T.n_Arms_layers | exact T.n_Layer_kind | exact T.n_Layer_numbers | exact T.n_Layer_fill)
local macro_rules | `(tactic| walk_at "ai") => `(tactic| first | assumption | exact atI_nat (by assumption) | rfl)
local macro_rules | `(tactic| walk_at "rd1") => `(tactic| first
  | refine ⟨_, rfl, ?_⟩
  | refine ⟨rfl, ?_⟩
  | refine ⟨_, _, rfl, rfl, ?_⟩
  | refine ⟨_, _, _, _, _, rfl, (by walk_at "hp"), (by walk_at "cl"), (by walk_at "na"), (by rfl), ?_⟩
  | refine ⟨_, _, _, _, rfl, (by walk_at "hp"), (by walk_at "cl"), (by walk_at "na"), Nat.le_of_ble_eq_true rfl, ?_⟩
  | refine ⟨_, _, _, _, rfl, rfl, (by walk_at "sq"), (by walk_at "ai"), ?_⟩
  | refine ⟨_, _, rfl, (by first | exact Or.inl (by walk_at "sq") | exact Or.inr (by walk_at "sq")), ?_⟩
  | refine ⟨(by walk_at "ar"), ?_⟩)
local macro_rules | `(tactic| walk_at "ar") => `(tactic| first | exact (show CDiv _ _ from ⟨by decide, by decide⟩) | exact (show (0 : Int) < _ from by decide) | exact (show CMul _ _ from .inl ⟨by omega, by omega⟩) | exact (show CMul _ _ from .inr ⟨by omega, by omega⟩))
local macro_rules | `(tactic| walk_at "rd") => `(tactic| repeat walk_at "rd1")
local macro_rules | `(tactic| walk_at "fa") => `(tactic| first | exact ⟨_, rfl, (by omega), rfl⟩ | exact ⟨_, _, rfl, (by omega), rfl⟩ | exact ⟨_, _, _, rfl, (by omega), rfl⟩ | exact ⟨_, _, _, _, rfl, (by omega), rfl⟩ | exact ⟨_, _, _, _, _, rfl, (by omega), rfl⟩)
local macro_rules | `(tactic| walk_at "vr") => `(tactic| first
  | exact v_var (by rfl)
  | exact v_c
  | (apply v_i0 <;> walk_at "vr")
  | (apply v_i <;> first | walk_at "ar" | walk_at "vr")
  | (apply v_neg <;> walk_at "vr")
  | (apply v_eq <;> walk_at "vr")
  | (apply v_eqB <;> walk_at "vr")
  | (apply v_ne <;> walk_at "vr")
  | (apply v_neB <;> walk_at "vr")
  | (apply v_chain (g := fun _ _ => _) (g' := fun _ _ => _) <;> walk_at "vr")
  | (apply v_and <;> walk_at "vr")
  | (apply v_or <;> walk_at "vr")
  | (apply v_not <;> walk_at "vr")
  | (apply v_ifI <;> walk_at "vr")
  | (apply v_ifB <;> walk_at "vr")
  | (apply v_call <;> first | walk_at "fa" | walk_at "vr")
  | (apply v_abs <;> walk_at "vr")
  | (apply v_min <;> walk_at "vr")
  | exact va_nil
  | (apply va_cons <;> walk_at "vr")
  | (apply a_test <;> walk_at "vr")
  | (apply a_B <;> walk_at "vr")
  | (apply a_and <;> walk_at "vr")
  | (apply a_or <;> walk_at "vr")
  | (apply a_not <;> walk_at "vr"))
local macro_rules | `(tactic| walk_at "rs") => `(tactic| first
  | (apply r_ret; walk_at "vr")
  | (apply r_set; walk_at "vr"; walk_at "rs")
  | (apply r_ifI; walk_at "vr"; intro _; walk_at "rs"; intro _; walk_at "rs")
  | (apply r_ifB; walk_at "vr"; intro _; walk_at "rs"; intro _; walk_at "rs"))

section
variable {P : Program} {w : World} {K : PySem.W.Frag} {mg : Str → Option Value} {base : Heap}
theorem ok_Bytes_init (T : Txt w K mg) : Mak P w K mg base 1 "Bytes" p_Bytes_init (spI_Bytes K "Bytes") := by
  refine ⟨T.di_Bytes.ok sc_Bytes_init (fun vs H Q E h => by obtain ⟨_, _, _, rfl, _⟩ := h; rfl) ?_, T.m_Bytes, T.g_Bytes⟩
  intro cdv A outer s0 H vs Q E hr h
  refine ⟨_, (pss_cons (ps_fld (pv 0) (pv 1) rfl)
      (pss_one (ps_fld (pv 0) pe_int rfl))), ?_⟩
  try dsimp only [cxOf]
  obtain ⟨x, dx, c, rfl, hx, k⟩ := h
  walk_at "rd"
  exact k _ (Bt.refl.put.put) upd_same
theorem ok_Layer_init (T : Txt w K mg) : Mak P w K mg base 1 "Layer" p_Layer_init (spI_Layer K) := by
  refine ⟨T.di_Layer.ok sc_Layer_init (fun vs H Q E h => by obtain ⟨_, _, _, _, _, rfl, _⟩ := h; rfl) ?_, T.m_Layer, T.g_Layer⟩
  intro cdv A outer s0 H vs Q E hr h
  refine ⟨_, (pss_cons (ps_fld (pv 0) (pv 1) rfl)
      (pss_cons (ps_fld (pv 0) (pv 2) rfl)
      (pss_one (ps_fld (pv 0) (pv 3) rfl)))), ?_⟩
  try dsimp only [cxOf]
  obtain ⟨x, dx, a, b, c, rfl, hx, k⟩ := h
  walk_at "rd"
  exact k _ (Bt.refl.put.put.put) upd_same
theorem ok_Arms_init (T : Txt w K mg) : Mak P w K mg base 1 "Arms" p_Arms_init (spI_Arms K) := by
  refine ⟨T.di_Arms.ok sc_Arms_init (fun vs H Q E h => by obtain ⟨_, _, _, rfl, _⟩ := h; rfl) ?_, T.m_Arms, T.g_Arms⟩
  intro cdv A outer s0 H vs Q E hr h
  refine ⟨_, (pss_cons (ps_fld (pv 0) (pv 1) rfl)
      (pss_one (ps_fld (pv 0) (pe_lst pa_nil) rfl))), ?_⟩
  try dsimp only [cxOf]
  obtain ⟨x, dx, f, rfl, hx, k⟩ := h
  walk_at "rd"
  refine ⟨Nat.zero_le _, fun l hl => ?_⟩
  have nl : l ≠ x := fun z => by
    rw [z, upd_same] at hl
    cases hl
  have hx1 : upd (upd H x (.ins (He.ga K "Arms") dx [("field", f)])) l (.lst []) x = some (.ins (He.ga K "Arms") dx [("field", f)]) := by
    rw [upd_ne (Ne.symm nl)]
    exact upd_same
  walk_at "rd"
  refine k _ l ((Bt.refl.put.new hl).put) (by rw [upd_ne nl] at hl; exact hl) upd_same ?_
  rw [upd_ne nl]
  exact upd_same
theorem ok_Coat_init (T : Txt w K mg) : Mak P w K mg base 1 "Coat" p_Coat_init (spI_Coat K) := by
  refine ⟨T.di_Coat.ok sc_Coat_init (fun vs H Q E h => by obtain ⟨_, _, _, rfl, _⟩ := h; rfl) ?_, T.m_Coat, T.g_Coat⟩
  intro cdv A outer s0 H vs Q E hr h
  refine ⟨_, (pss_cons (ps_fld (pv 0) (pv 1) rfl)
      (pss_cons (ps_fld (pv 0) pe_non rfl)
      (pss_cons (ps_fld (pv 0) pe_non rfl)
      (pss_cons (ps_fld (pv 0) (pe_lst pa_nil) rfl)
      (pss_one (ps_fld (pv 0) (pe_lst pa_nil) rfl)))))), ?_⟩
  try dsimp only [cxOf]
  obtain ⟨x, dx, n, rfl, hx, k⟩ := h
  walk_at "rd"
  refine ⟨Nat.zero_le _, fun l hl => ?_⟩
  have nl : l ≠ x := fun z => by
    rw [z, upd_same] at hl
    cases hl
  have hl0 : H l = none := by
    rw [upd_ne nl, upd_ne nl, upd_ne nl] at hl
    exact hl
  refine ⟨_, rfl, x, _, dx, [("kind", iv n), ("arms", .non), ("canton", .non)], rfl, (upd_ne (Ne.symm nl)).trans upd_same, T.c_Coat, T.n_Coat_marks, Nat.le_of_ble_eq_true rfl, ?_⟩
  refine ⟨Nat.zero_le _, fun l2 hl2 => ?_⟩
  have nl2 : l2 ≠ x := fun z => by
    rw [z, upd_same] at hl2
    cases hl2
  have nl3 : l2 ≠ l := fun z => by
    rw [z, upd_ne nl, upd_same] at hl2
    cases hl2
  have hl4 : H l2 = none := by
    rw [upd_ne nl2, upd_ne nl3, upd_ne nl2, upd_ne nl2, upd_ne nl2] at hl2
    exact hl2
  refine ⟨_, rfl, x, _, dx, [("kind", iv n), ("arms", .non), ("canton", .non), ("marks", .ref l)], rfl, (upd_ne (Ne.symm nl2)).trans upd_same, T.c_Coat, T.n_Coat_coats, Nat.le_of_ble_eq_true rfl, ?_⟩
  refine k _ l l2 (((Bt.refl.put.put.put.new hl).put.new hl2).put) hl0 hl4 (Ne.symm nl3) upd_same ?_ ?_
  · rw [upd_ne nl, upd_ne (Ne.symm nl3), upd_ne nl]
    exact upd_same
  · rw [upd_ne nl2]
    exact upd_same
theorem ok_read_tinctures (T : Txt w K mg) (u_read_byte : Cal P w K mg base (L2.CX P w) 3 "read_byte" p_read_byte (spByte K)) (q_NoCoat : Exq P w K mg base 1 "NoCoat" p_NoCoat_init (spErr1 K "NoCoat")) : Cal P w K mg base (L2.CX P w) 4 "read_tinctures" p_read_tinctures (spTwo K) := by
  refine T.d_read_tinctures.cal sc_read_tinctures (fun vs H Q E h => by obtain ⟨_, _, _, _, _, _, rfl, _⟩ := h; rfl) ?_
  intro cdv A outer s0 H vs Q E hr h
  have nd := sc_read_tinctures.nd
  have tk := tkX (P := P) (w := w) (K := K) (mg := mg) (base := base) (N := n_read_tinctures) (q := "read_tinctures") (sc := defScope s_read_tinctures) (f := He.ga K "read_tinctures") (cdv := cdv) (A := A) (outer := outer) (s := s0) (H := H) (E := E)
  have pX := paX (P := P) (w := w) (K := K) (mg := mg) (base := base) (N := n_read_tinctures) (q := "read_tinctures") (sc := defScope s_read_tinctures) (f := He.ga K "read_tinctures") (cdv := cdv) (A := A) (outer := outer) (s := s0) (H := H) (E := E)
  have po := poX (CX := L2.CX P w) (P := P) (w := w) (K := K) (mg := mg) (base := base) (N := n_read_tinctures) (q := "read_tinctures") (sc := defScope s_read_tinctures) (f := He.ga K "read_tinctures") (cdv := cdv) (A := A) (outer := outer) (s := s0) (H := H) (E := E)
  have h_read_byte : Room (3) _ := hr.mono (by omega)
  have h_NoCoat : Room (2) _ := hr.mono (by omega)
  refine ⟨_, (pss_cons (ps_set (i := 1) nd rfl (Or.inl rfl) (pe_cal u_read_byte (h_read_byte) pX (pa_cons (pv 0) (pa_cons pe_int (pa_cons pe_int pa_nil)))))
      (pss_cons (ps_set (i := 2) nd rfl (Or.inl rfl) (pe_cal u_read_byte (h_read_byte) pX (pa_cons (pv 0) (pa_cons pe_int (pa_cons pe_int pa_nil)))))
      (pss_cons (ps_if (pt_cmpR op_eq (pv 1) (pv 2) (nomark _)) (pss_one (ps_raise rfl tk (pmk_exq q_NoCoat (h_NoCoat) (by exact (pa_cons (pe_op op_sub (pe_fld (pv 0) rfl) pe_int) pa_nil))))) pss_nil)
      (pss_one (ps_ret (pe_tup (pa_cons (pv 1) (pa_cons (pv 2) pa_nil)))))))), ?_⟩
  try dsimp only [cxOf]
  clear h_NoCoat h_read_byte po pX tk nd
  obtain ⟨_, s, dx, cc, bs, k, rfl, _, S, R⟩ := h
  walk_at "rd"
  refine ⟨(0, 8), s, dx, cc, bs, k, rfl, trivial, S, ⟨fun e he d H1 b1 hd => R.err e (by simp only [Sh.twoAt, he]) d H1 b1 hd, fun n p he v H1 b1 S1 is => ?_⟩⟩
  obtain rfl : v = .int (n : Int) := is
  obtain ⟨ep, _, hn, _, _⟩ := num_is he
  walk_at "rd"
  refine ⟨(0, 8), s, dx, cc, bs, p, rfl, trivial, S1, ⟨fun e he2 d H2 b2 hd => R.err e (by simp only [Sh.twoAt, he, num_but_err he2 (by decide)]) d H2 (b1.trans b2) hd, fun m p2 he2 v H2 b2 S2 is => ?_⟩⟩
  obtain rfl : v = .int (m : Int) := is
  obtain ⟨ep2, _, hm, _, _⟩ := num_is he2
  have B2 := b1.trans b2
  walk_at "rd"
  refine iteB (fun c => ?_) fun c => ?_
  · have c' : n = m := by
      have z := of_decide_eq_true c
      injection z with z
      omega
    walk_at "rd"
    refine raise1 fun d H3 sa _ hd => ?_
    refine R.err p (by simp only [Sh.twoAt, he, num_but he2, if_pos c'.symm]) d H3 (B2.trans (.same sa)) ?_
    rw [hd, ep2]
    show some (HO.xd [(("place" : Str), V.int (((p + 1 : Nat) : Int) - 1))]) = _
    rw [show (((p + 1 : Nat) : Int) - 1) = (p : Int) by omega]
  · have c' : ¬ n = m := fun z => by
      rw [z] at c
      simp at c
    walk_at "rd"
    refine ⟨by show 2 ≤ sizeLine; decide, fun q hq => ?_⟩
    refine R.ok (n, m) p2 (by simp only [Sh.twoAt, he, num_but he2, if_neg (Ne.symm c')]) _ _ (B2.new hq) (S2.bt (Bt.refl.new hq) ((upd_ne (ne_of_none S2.ob hq)).trans S2.ob) S2.le) ⟨q, rfl, dn_of (B2.none S2.ob q hq) upd_same⟩
theorem ok_read_field (T : Txt w K mg) (u_read_byte : Cal P w K mg base (L2.CX P w) 3 "read_byte" p_read_byte (spByte K)) (u_read_tinctures : Cal P w K mg base (L2.CX P w) 4 "read_tinctures" p_read_tinctures (spTwo K)) : Cal P w K mg base (L2.CX P w) 5 "read_field" p_read_field (spField K) := by
  refine T.d_read_field.cal sc_read_field (fun vs H Q E h => by obtain ⟨_, _, _, _, _, _, rfl, _⟩ := h; rfl) ?_
  intro cdv A outer s0 H vs Q E hr h
  have nd := sc_read_field.nd
  have tk := tkX (P := P) (w := w) (K := K) (mg := mg) (base := base) (N := n_read_field) (q := "read_field") (sc := defScope s_read_field) (f := He.ga K "read_field") (cdv := cdv) (A := A) (outer := outer) (s := s0) (H := H) (E := E)
  have pX := paX (P := P) (w := w) (K := K) (mg := mg) (base := base) (N := n_read_field) (q := "read_field") (sc := defScope s_read_field) (f := He.ga K "read_field") (cdv := cdv) (A := A) (outer := outer) (s := s0) (H := H) (E := E)
  have po := poX (CX := L2.CX P w) (P := P) (w := w) (K := K) (mg := mg) (base := base) (N := n_read_field) (q := "read_field") (sc := defScope s_read_field) (f := He.ga K "read_field") (cdv := cdv) (A := A) (outer := outer) (s := s0) (H := H) (E := E)
  have h_read_byte : Room (3) _ := hr.mono (by omega)
  have h_read_tinctures : Room (4) _ := hr.mono (by omega)
  refine ⟨_, (pss_cons (ps_set (i := 1) nd rfl (Or.inl rfl) (pe_cal u_read_byte (h_read_byte) pX (pa_cons (pv 0) (pa_cons (pe_gi T.i_PLAIN) (pa_cons (pe_gi T.i_VARIED) pa_nil)))))
      (pss_cons (ps_if (pt_cmpR op_eq (pv 1) (pe_gi T.i_PLAIN) (nomark _)) (pss_one (ps_ret (pe_tup (pa_cons (pe_gi T.i_PLAIN) (pa_cons (pe_cal u_read_byte (h_read_byte) pX (pa_cons (pv 0) (pa_cons pe_int (pa_cons pe_int pa_nil)))) pa_nil))))) pss_nil)
      (pss_cons (ps_if (pt_cmpR op_eq (pv 1) (pe_gi T.i_PARTED) (nomark _)) (pss_cons (ps_set (i := 2) nd rfl (Or.inl rfl) (pe_cal u_read_byte (h_read_byte) pX (pa_cons (pv 0) (pa_cons pe_int (pa_cons pe_int pa_nil)))))
      (pss_one (ps_ret (pe_op op_catA (pe_tup (pa_cons (pe_gi T.i_PARTED) (pa_cons (pv 2) (pa_cons (pe_cal u_read_byte (h_read_byte) pX (pa_cons (pv 0) (pa_cons pe_int (pa_cons pe_int pa_nil)))) pa_nil)))) (pe_cal u_read_tinctures (h_read_tinctures) pX (pa_cons (pv 0) pa_nil)))))) pss_nil)
      (pss_cons (ps_set (i := 2) nd rfl (Or.inl rfl) (pe_cal u_read_byte (h_read_byte) pX (pa_cons (pv 0) (pa_cons pe_int (pa_cons pe_int pa_nil)))))
      (pss_cons (ps_set (i := 3) nd rfl (Or.inl rfl) (pe_cal u_read_byte (h_read_byte) pX (pa_cons (pv 0) (pa_cons pe_int (pa_cons pe_int pa_nil)))))
      (pss_one (ps_ret (pe_op op_catA (pe_tup (pa_cons (pe_gi T.i_VARIED) (pa_cons (pv 2) (pa_cons (pv 3) (pa_cons (pe_cal u_read_byte (h_read_byte) pX (pa_cons (pv 0) (pa_cons pe_int (pa_cons (pe_ifExp (pt_cmpR op_ge (pv 2) pe_int (nomark _)) pe_int pe_int) pa_nil)))) pa_nil))))) (pe_cal u_read_tinctures (h_read_tinctures) pX (pa_cons (pv 0) pa_nil)))))))))), ?_⟩
  try dsimp only [cxOf]
  clear h_read_tinctures h_read_byte po pX tk nd
  obtain ⟨_, s, dx, cc, bs, k, rfl, _, S, R⟩ := h
  walk_at "rd"
  refine ⟨(0, 2), s, dx, cc, bs, k, rfl, trivial, S, ⟨fun e he d H1 b1 hd => R.err e (by simp only [Sh.fieldAt, he]) d H1 b1 hd, fun n p he v H1 b1 S1 is => ?_⟩⟩
  obtain rfl : v = .int (n : Int) := is
  obtain ⟨_, _, hn, _, _⟩ := num_is he
  walk_at "rd"
  refine iteB (fun c => ?_) fun c => ?_
  · have c' : n = 0 := by
      have z := of_decide_eq_true c
      injection z with z
      omega
    subst c'
    walk_at "rd"
    refine ⟨(0, 8), s, dx, cc, bs, p, rfl, trivial, S1, ⟨fun e he2 d H2 b2 hd => R.err e (by simp only [Sh.fieldAt, he, he2, if_true]) d H2 (b1.trans b2) hd, fun m p2 he2 v H2 b2 S2 is => ?_⟩⟩
    obtain rfl : v = .int (m : Int) := is
    have B2 := b1.trans b2
    walk_at "rd"
    refine ⟨by show 2 ≤ sizeLine; decide, fun q hq => ?_⟩
    exact R.ok (.plain m) p2 (by simp only [Sh.fieldAt, he, he2, if_true]) _ _ (B2.new hq) (S2.bt (Bt.refl.new hq) ((upd_ne (ne_of_none S2.ob hq)).trans S2.ob) S2.le) ⟨q, rfl, dn_of (B2.none S2.ob q hq) upd_same⟩
  · have c' : ¬ n = 0 := fun z => by
      rw [z] at c
      simp at c
    walk_at "rd"
    refine iteB (fun c1 => ?_) fun c1 => ?_
    · have c1' : n = 1 := by
        have z := of_decide_eq_true c1
        injection z with z
        omega
      subst c1'
      walk_at "rd"
      refine ⟨(0, 7), s, dx, cc, bs, p, rfl, trivial, S1, ⟨fun e he2 d H2 b2 hd => R.err e (by simp [Sh.fieldAt, he, he2]) d H2 (b1.trans b2) hd, fun m p2 he2 v H2 b2 S2 is => ?_⟩⟩
      obtain rfl : v = .int (m : Int) := is
      have B2 := b1.trans b2
      walk_at "rd"
      refine ⟨(0, 5), s, dx, cc, bs, p2, rfl, trivial, S2, ⟨fun e he3 d H3 b3 hd => R.err e (by simp [Sh.fieldAt, he, he2, he3]) d H3 (B2.trans b3) hd, fun l p3 he3 v H3 b3 S3 is => ?_⟩⟩
      obtain rfl : v = .int (l : Int) := is
      have B3 := B2.trans b3
      refine ⟨by show 3 ≤ sizeLine; decide, fun q hq => ?_⟩
      have S3' := S3.bt (Bt.refl.new (o := .tup [.int 1, .int (m : Int), .int (l : Int)]) hq) ((upd_ne (ne_of_none S3.ob hq)).trans S3.ob) S3.le
      walk_at "rd"
      refine ⟨(), s, dx, cc, bs, p3, rfl, trivial, S3', ⟨fun e he4 d H4 b4 hd => R.err e (by simp [Sh.fieldAt, he, he2, he3, he4]) d H4 ((B3.new hq).trans b4) hd, fun t p4 he4 v H4 b4 S4 is => ?_⟩⟩
      obtain ⟨q2, rfl, hq2⟩ := is
      have hq2' := (of_dn hq2).2
      have hq' : H4 q = some (.tup [.int 1, .int (m : Int), .int (l : Int)]) := b4 _ _ (ne_of upd_same S3'.ob (by intro z; cases z)) upd_same
      have B4 := (B3.new hq).trans b4
      refine ⟨q, q2, _, _, rfl, rfl, SqT.of hq', SqT.of hq2', by show 5 ≤ sizeLine; decide, fun z => (by cases z), fun _ z => (by cases z), fun _ _ r hr => ?_⟩
      exact R.ok (.parted m l t.1 t.2) p4 (by simp [Sh.fieldAt, he, he2, he3, he4]) _ _ (B4.new hr) (S4.bt (Bt.refl.new hr) ((upd_ne (ne_of_none S4.ob hr)).trans S4.ob) S4.le) ⟨r, rfl, dn_of (B4.none S4.ob r hr) upd_same⟩
    · have c1' : ¬ n = 1 := fun z => by
        rw [z] at c1
        simp at c1
      walk_at "rd"
      refine ⟨(0, 6), s, dx, cc, bs, p, rfl, trivial, S1, ⟨fun e he2 d H2 b2 hd => R.err e (by simp [Sh.fieldAt, he, he2, c', c1']) d H2 (b1.trans b2) hd, fun m p2 he2 v H2 b2 S2 is => ?_⟩⟩
      obtain rfl : v = .int (m : Int) := is
      have B2 := b1.trans b2
      walk_at "rd"
      refine ⟨(2, 24), s, dx, cc, bs, p2, rfl, trivial, S2, ⟨fun e he3 d H3 b3 hd => R.err e (by simp [Sh.fieldAt, he, he2, he3, c', c1']) d H3 (B2.trans b3) hd, fun nn p3 he3 v H3 b3 S3 is => ?_⟩⟩
      obtain rfl : v = .int (nn : Int) := is
      have B3 := B2.trans b3
      walk_at "rd"
      have key : ∀ (hi : Nat), hi = (if 5 ≤ m then 0 else 5) → spByte K ([.ref s, .int 0, .int (hi : Int)] ++ []) H3 (fun x H1 => tNil [some (.ref s), some (.int (n : Int)), some (.int (m : Int)), some (.int (nn : Int))] H1 fun xs H2 => (fun xs H1 => xs.length ≤ sizeLine ∧ ∀ p, H1 p = none → (fun x H1 => tCall (spTwo K) [] E (tCons (tVar 0) tNil) [some (.ref s), some (.int (n : Int)), some (.int (m : Int)), some (.int (nn : Int))] H1 fun y H2 => rCatA K x y H2 Q) (.ref p) (upd H1 p (.tup xs))) (.int 2 :: .int (m : Int) :: .int (nn : Int) :: x :: xs) H2) E := by
        intro hi ehi
        refine ⟨(0, hi), s, dx, cc, bs, p3, rfl, trivial, S3, ⟨fun e he4 d H4 b4 hd => R.err e (by rw [ehi] at he4; simp [Sh.fieldAt, he, he2, he3, he4, c', c1']) d H4 (B3.trans b4) hd, fun l p4 he4 v H4 b4 S4 is => ?_⟩⟩
        rw [ehi] at he4
        obtain rfl : v = .int (l : Int) := is
        have B4 := B3.trans b4
        refine ⟨by show 4 ≤ sizeLine; decide, fun q hq => ?_⟩
        have S4' := S4.bt (Bt.refl.new (o := .tup [.int 2, .int (m : Int), .int (nn : Int), .int (l : Int)]) hq) ((upd_ne (ne_of_none S4.ob hq)).trans S4.ob) S4.le
        walk_at "rd"
        refine ⟨(), s, dx, cc, bs, p4, rfl, trivial, S4', ⟨fun e he5 d H5 b5 hd => R.err e (by simp [Sh.fieldAt, he, he2, he3, he4, he5, c', c1']) d H5 ((B4.new hq).trans b5) hd, fun t p5 he5 v H5 b5 S5 is => ?_⟩⟩
        obtain ⟨q2, rfl, hq2⟩ := is
        have hq2' := (of_dn hq2).2
        have hq' : H5 q = some (.tup [.int 2, .int (m : Int), .int (nn : Int), .int (l : Int)]) := b5 _ _ (ne_of upd_same S4'.ob (by intro z; cases z)) upd_same
        have B5 := (B4.new hq).trans b5
        refine ⟨q, q2, _, _, rfl, rfl, SqT.of hq', SqT.of hq2', by show 6 ≤ sizeLine; decide, fun z => (by cases z), fun _ z => (by cases z), fun _ _ r hr => ?_⟩
        exact R.ok (.varied m nn l t.1 t.2) p5 (by simp [Sh.fieldAt, he, he2, he3, he4, he5, c', c1']) _ _ (B5.new hr) (S5.bt (Bt.refl.new hr) ((upd_ne (ne_of_none S5.ob hr)).trans S5.ob) S5.le) ⟨r, rfl, dn_of (B5.none S5.ob r hr) upd_same⟩
      refine iteB (fun c2 => ?_) fun c2 => ?_
      · exact key 0 (by have z := of_decide_eq_true c2; rw [if_pos (by omega)])
      · exact key 5 (by have z := of_decide_eq_false c2; rw [if_neg (by omega)])
end
end Hc

namespace Hc
open PySem PySem.Spec PyProof.Rows L2
open Sh ShMarsh
set_option hygiene false
local macro_rules | `(tactic| walk_at "hp") => `(tactic| first | assumption | exact Src.ob (by assumption) | exact upd_same)
local macro_rules | `(tactic| walk_at "sq") => `(tactic| first | assumption | exact Src.sq (by assumption) | exact SqL.of (by assumption) | exact SqL.of upd_same | exact SqT.of (by assumption) | exact SqT.of upd_same)
local macro_rules | `(tactic| walk_at "cl") => `(tactic| with_reducible first | exact T.c_Bytes | exact T.c_Coat | exact T.c_Arms | exact T.c_Layer)
local macro_rules | `(tactic| walk_at "na") => `(tactic| with_reducible first | exact T.n_Bytes_some | exact T.n_Bytes_at | exact T.n_Coat_kind | exact T.n_Coat_arms | exact T.n_Coat_canton | exact T.n_Coat_marks | exact T.n_Coat_coats | exact T.n_Arms_field | exact T.n_Arms_layers | exact T.n_Layer_kind | exact T.n_Layer_numbers | exact T.n_Layer_fill)
local macro_rules | `(tactic| walk_at "ai") => `(tactic| first | assumption | exact atI_nat (by assumption) | rfl)
local macro_rules | `(tactic| walk_at "rd1") => `(tactic| first
  | refine ⟨_, rfl, ?_⟩
  | refine ⟨rfl, ?_⟩
  | refine ⟨_, _, rfl, rfl, ?_⟩
  | refine ⟨_, _, _, _, _, rfl, (by walk_at "hp"), (by walk_at "cl"), (by walk_at "na"), (by rfl), ?_⟩
  | refine ⟨_, _, _, _, rfl, (by walk_at "hp"), (by walk_at "cl"), (by walk_at "na"), Nat.le_of_ble_eq_true rfl, ?_⟩
  | refine ⟨_, _, _, _, rfl, rfl, (by walk_at "sq"), (by walk_at "ai"), ?_⟩
  | refine ⟨_, _, rfl, (by first | exact Or.inl (by walk_at "sq") | exact Or.inr (by walk_at "sq")), ?_⟩
  | refine ⟨(by walk_at "ar"), ?_⟩)
local macro_rules | `(tactic| walk_at "ar") => `(tactic| first | exact (show CDiv _ _ from ⟨by decide, by decide⟩) | exact (show (0 : Int) < _ from by decide) | exact (show CMul _ _ from .inl ⟨by omega, by omega⟩) | exact (show CMul _ _ from .inr ⟨by omega, by omega⟩))
local macro_rules | `(tactic| walk_at "rd") => `(tactic| repeat walk_at "rd1")
local macro_rules | `(tactic| walk_at "fa") => `(tactic| first | exact ⟨_, rfl, (by omega), rfl⟩ | exact ⟨_, _, rfl, (by omega), rfl⟩ | exact ⟨_, _, _, rfl, (by omega), rfl⟩ | exact ⟨_, _, _, _, rfl, (by omega), rfl⟩ | exact ⟨_, _, _, _, _, rfl, (by omega), rfl⟩)
local macro_rules | `(tactic| walk_at "vr") => `(tactic| first
  | exact v_var (by rfl)
  | exact v_c
  | (apply v_i0 <;> walk_at "vr")
  | (apply v_i <;> first | walk_at "ar" | walk_at "vr")
  | (apply v_neg <;> walk_at "vr")
  | (apply v_eq <;> walk_at "vr")
  | (apply v_eqB <;> walk_at "vr")
  | (apply v_ne <;> walk_at "vr")
  | (apply v_neB <;> walk_at "vr")
  | (apply v_chain (g := fun _ _ => _) (g' := fun _ _ => _) <;> walk_at "vr")
  | (apply v_and <;> walk_at "vr")
  | (apply v_or <;> walk_at "vr")
  | (apply v_not <;> walk_at "vr")
  | (apply v_ifI <;> walk_at "vr")
  | (apply v_ifB <;> walk_at "vr")
  | (apply v_call <;> first | walk_at "fa" | walk_at "vr")
  | (apply v_abs <;> walk_at "vr")
  | (apply v_min <;> walk_at "vr")
  | exact va_nil
  | (apply va_cons <;> walk_at "vr")
  | (apply a_test <;> walk_at "vr")
  | (apply a_B <;> walk_at "vr")
  | (apply a_and <;> walk_at "vr")
  | (apply a_or <;> walk_at "vr")
  | (apply a_not <;> walk_at "vr"))
local macro_rules | `(tactic| walk_at "rs") => `(tactic| first
  | (apply r_ret; walk_at "vr")
  | (apply r_set; walk_at "vr"; walk_at "rs")
  | (apply r_ifI; walk_at "vr"; intro _; walk_at "rs"; intro _; walk_at "rs")
  | (apply r_ifB; walk_at "vr"; intro _; walk_at "rs"; intro _; walk_at "rs"))

section
variable {P : Program} {w : World} {K : PySem.W.Frag} {mg : Str → Option Value} {base : Heap}
theorem fieldV_head (f : Field) : ∃ n r, fieldV f = iv n :: r ∧ (n = 0 ↔ f.two.isSome = false) := by
  cases f with
  | plain t => exact ⟨0, _, rfl, by simp [Field.two]⟩
  | parted d l a b => exact ⟨1, _, rfl, by simp [Field.two]⟩
  | varied v n l a b => exact ⟨2, _, rfl, by simp [Field.two]⟩
theorem ok_read_fill (T : Txt w K mg) (u_read_byte : Cal P w K mg base (L2.CX P w) 3 "read_byte" p_read_byte (spByte K)) (u_read_field : Cal P w K mg base (L2.CX P w) 5 "read_field" p_read_field (spField K)) : Cal P w K mg base (L2.CX P w) 6 "read_fill" p_read_fill (spFill K) := by
  refine T.d_read_fill.cal sc_read_fill (fun vs H Q E h => by obtain ⟨_, _, _, _, _, _, rfl, _⟩ := h; rfl) ?_
  intro cdv A outer s0 H vs Q E hr h
  have nd := sc_read_fill.nd
  have tk := tkX (P := P) (w := w) (K := K) (mg := mg) (base := base) (N := n_read_fill) (q := "read_fill") (sc := defScope s_read_fill) (f := He.ga K "read_fill") (cdv := cdv) (A := A) (outer := outer) (s := s0) (H := H) (E := E)
  have pX := paX (P := P) (w := w) (K := K) (mg := mg) (base := base) (N := n_read_fill) (q := "read_fill") (sc := defScope s_read_fill) (f := He.ga K "read_fill") (cdv := cdv) (A := A) (outer := outer) (s := s0) (H := H) (E := E)
  have po := poX (CX := L2.CX P w) (P := P) (w := w) (K := K) (mg := mg) (base := base) (N := n_read_fill) (q := "read_fill") (sc := defScope s_read_fill) (f := He.ga K "read_fill") (cdv := cdv) (A := A) (outer := outer) (s := s0) (H := H) (E := E)
  have h_read_byte : Room (3) _ := hr.mono (by omega)
  have h_read_field : Room (5) _ := hr.mono (by omega)
  refine ⟨_, (pss_cons (ps_if (pt_cmpR op_eq (pe_cal u_read_byte (h_read_byte) pX (pa_cons (pv 0) (pa_cons pe_int (pa_cons (pe_callTy call_int1 (by rfl) T.f_int (by decide +kernel) (pa_cons (pe_cmpR op_ne (pe_ix ix_tup (pe_fld (pv 1) rfl) pe_int (fun _ _ => rfl)) (pe_gi T.i_PLAIN) (nomark _)) pa_nil)) pa_nil)))) pe_int (nomark _)) (pss_one (ps_ret pe_non)) pss_nil)
      (pss_one (ps_ret (pe_cal u_read_field (h_read_field) pX (pa_cons (pv 0) pa_nil))))), ?_⟩
  try dsimp only [cxOf]
  clear h_read_field h_read_byte po pX tk nd
  obtain ⟨⟨ar, f⟩, s, dx, cc, bs, k, rfl, pre, S, R⟩ := h
  obtain ⟨dxa, ff, la, hA, hF⟩ := id pre
  obtain ⟨n0, r0, e0, n0z⟩ := fieldV_head f
  dsimp only at e0 n0z hA hF
  rw [e0] at hF
  walk_at "rd"
  refine ⟨ff, _, _, _, rfl, rfl, SqT.of hF, atI_nat (j := 0) rfl, ?_⟩
  walk_at "rd"
  refine .inr ⟨_, rfl, ?_⟩
  have key : ∀ hi : Nat, hi = (if f.two.isSome = true then 1 else 0) → ∀ Q', (∀ m p2 v H2, Sh.numAt 0 (if f.two.isSome = true then 1 else 0) ANY k (bs.drop k) = .ok (m, p2, bs.drop p2) → Bt s H H2 → Src K (He.ga K "Bytes") H2 s dx cc bs p2 → v = V.int (m : Int) → Q' v H2) → spByte K ([.ref s, .int 0, .int (hi : Int)] ++ []) H Q' E := by
    intro hi ehi Q' hq
    refine ⟨(0, hi), s, dx, cc, bs, k, rfl, trivial, S, ⟨fun e he d H1 b1 hd => R.err e (by rw [ehi] at he; simp only [Sh.fillAt, he]) d H1 b1 hd, fun m p he v H1 b1 S1 is => ?_⟩⟩
    rw [ehi] at he
    exact hq m p v H1 he b1 S1 is
  have ev : (if (!decide (iv n0 = V.int 0)) = true then (1 : Int) else 0) = (((if f.two.isSome = true then 1 else 0) : Nat) : Int) := by
    by_cases z : n0 = 0
    · rw [n0z.mp z, z]
      rfl
    · have z2 : f.two.isSome = true := by
        cases q : f.two.isSome with
        | true => rfl
        | false => exact absurd (n0z.mpr q) z
      have z3 : decide (iv n0 = V.int 0) = false := decide_eq_false fun y => by
        have y' : V.int (n0 : Int) = V.int 0 := y
        injection y' with y'
        omega
      rw [z2, z3]
      rfl
  rw [ev]
  refine key _ rfl _ fun m p v H1 he b1 S1 ev => ?_
  subst ev
  walk_at "rd"
  refine iteB (fun c => ?_) fun c => ?_
  · have c' : m = 1 := by
      have z := of_decide_eq_true c
      injection z with z
      omega
    exact R.ok .counter p (by simp [Sh.fillAt, he, c']) _ _ b1 S1 rfl
  · have c' : ¬ m = 1 := fun z => by
      rw [z] at c
      simp at c
    walk_at "rd"
    refine ⟨(), s, dx, cc, bs, p, rfl, trivial, S1, ⟨fun e he2 d H2 b2 hd => R.err e (by simp [Sh.fillAt, he, he2, c']) d H2 (b1.trans b2) hd, fun g p2 he2 v H2 b2 S2 is => ?_⟩⟩
    exact R.ok (.solid g) p2 (by simp [Sh.fillAt, he, he2, c']) _ _ (b1.trans b2) S2 (IsField.up (dn_mono (fun a h => b1.none S1.ob a h) fun a o h q => q) is)
theorem ok_read_layer (T : Txt w K mg) (u_read_byte : Cal P w K mg base (L2.CX P w) 3 "read_byte" p_read_byte (spByte K)) (u_read_fill : Cal P w K mg base (L2.CX P w) 6 "read_fill" p_read_fill (spFill K)) (m_Layer : Mak P w K mg base 1 "Layer" p_Layer_init (spI_Layer K)) : Cal P w K mg base (L2.CX P w) 7 "read_layer" p_read_layer (spLayer K) := by
  refine T.d_read_layer.cal sc_read_layer (fun vs H Q E h => by obtain ⟨_, _, _, _, _, _, rfl, _⟩ := h; rfl) ?_
  intro cdv A outer s0 H vs Q E hr h
  have nd := sc_read_layer.nd
  have tk := tkX (P := P) (w := w) (K := K) (mg := mg) (base := base) (N := n_read_layer) (q := "read_layer") (sc := defScope s_read_layer) (f := He.ga K "read_layer") (cdv := cdv) (A := A) (outer := outer) (s := s0) (H := H) (E := E)
  have pX := paX (P := P) (w := w) (K := K) (mg := mg) (base := base) (N := n_read_layer) (q := "read_layer") (sc := defScope s_read_layer) (f := He.ga K "read_layer") (cdv := cdv) (A := A) (outer := outer) (s := s0) (H := H) (E := E)
  have po := poX (CX := L2.CX P w) (P := P) (w := w) (K := K) (mg := mg) (base := base) (N := n_read_layer) (q := "read_layer") (sc := defScope s_read_layer) (f := He.ga K "read_layer") (cdv := cdv) (A := A) (outer := outer) (s := s0) (H := H) (E := E)
  have h_read_byte : Room (3) _ := hr.mono (by omega)
  have h_read_fill : Room (6) _ := hr.mono (by omega)
  have h_Layer : Room (2) _ := hr.mono (by omega)
  refine ⟨_, (pss_cons (ps_set (i := 2) nd rfl (Or.inl rfl) (pe_cal u_read_byte (h_read_byte) pX (pa_cons (pv 0) (pa_cons (pe_gi T.i_ORDINARY) (pa_cons (pe_gi T.i_GROUP) pa_nil)))))
      (pss_cons (ps_if (pt_cmpR op_eq (pv 2) (pe_gi T.i_ORDINARY) (nomark _)) (pss_one (ps_set (i := 3) nd rfl (Or.inl rfl) (pe_lst (pa_cons (pe_cal u_read_byte (h_read_byte) pX (pa_cons (pv 0) (pa_cons pe_int (pa_cons pe_int pa_nil)))) (pa_cons (pe_cal u_read_byte (h_read_byte) pX (pa_cons (pv 0) (pa_cons pe_int (pa_cons pe_int pa_nil)))) pa_nil))))) (pss_cons (ps_set (i := 3) nd rfl (Or.inl rfl) (pe_lst (pa_cons (pe_cal u_read_byte (h_read_byte) pX (pa_cons (pv 0) (pa_cons pe_int (pa_cons pe_int pa_nil)))) (pa_cons (pe_cal u_read_byte (h_read_byte) pX (pa_cons (pv 0) (pa_cons pe_int (pa_cons pe_int pa_nil)))) (pa_cons (pe_cal u_read_byte (h_read_byte) pX (pa_cons (pv 0) (pa_cons pe_int (pa_cons pe_int pa_nil)))) pa_nil)))))
      (pss_one (ps_expr (pe_bm PySem.F.plainAttrs_list PySem.F.slot_list_append PySem.F.type_list_append mt_append (pv 3) (pa_cons (pe_cal u_read_byte (h_read_byte) pX (pa_cons (pv 0) (pa_cons pe_int (pa_cons pe_int pa_nil)))) pa_nil))))))
      (pss_one (ps_ret (pe_mak m_Layer (h_Layer) (pa_cons (pv 2) (pa_cons (pv 3) (pa_cons (pe_cal u_read_fill (h_read_fill) pX (pa_cons (pv 0) (pa_cons (pv 1) pa_nil))) pa_nil)))))))), ?_⟩
  try dsimp only [cxOf]
  clear h_Layer h_read_fill h_read_byte po pX tk nd
  obtain ⟨⟨ar, f⟩, s, dx, cc, bs, k, rfl, pre, S, R⟩ := h
  walk_at "rd"
  refine ⟨(0, 1), s, dx, cc, bs, k, rfl, trivial, S, ⟨fun e he d H1 b1 hd => R.err e (by simp only [Sh.layerAt, he]) d H1 b1 hd, fun n p he v H1 b1 S1 is => ?_⟩⟩
  obtain rfl : v = .int (n : Int) := is
  obtain ⟨_, _, hn, _, _⟩ := num_is he
  walk_at "rd"
  refine iteB (fun c => ?_) fun c => ?_
  · have c' : n = 0 := by
      have z := of_decide_eq_true c
      injection z with z
      omega
    subst c'
    walk_at "rd"
    refine ⟨(0, 12), s, dx, cc, bs, p, rfl, trivial, S1, ⟨fun e he2 d H2 b2 hd => R.err e (by simp [Sh.layerAt, he, he2]) d H2 (b1.trans b2) hd, fun o p2 he2 v H2 b2 S2 is => ?_⟩⟩
    obtain rfl : v = .int (o : Int) := is
    have B2 := b1.trans b2
    walk_at "rd"
    refine ⟨(0, 5), s, dx, cc, bs, p2, rfl, trivial, S2, ⟨fun e he3 d H3 b3 hd => R.err e (by simp [Sh.layerAt, he, he2, he3]) d H3 (B2.trans b3) hd, fun l p3 he3 v H3 b3 S3 is => ?_⟩⟩
    obtain rfl : v = .int (l : Int) := is
    have B3 := B2.trans b3
    refine ⟨by show 2 ≤ sizeLine; decide, fun q hq => ?_⟩
    have S3' := S3.bt (Bt.refl.new (o := .lst [.int (o : Int), .int (l : Int)]) hq) ((upd_ne (ne_of_none S3.ob hq)).trans S3.ob) S3.le
    walk_at "rd"
    refine ⟨(ar, f), s, dx, cc, bs, p3, rfl, pre.bt S.ob (B3.new hq), S3', ⟨fun e he4 d H4 b4 hd => R.err e (by simp [Sh.layerAt, he, he2, he3, he4]) d H4 ((B3.new hq).trans b4) hd, fun fl p4 he4 v H4 b4 S4 is => ?_⟩⟩
    have hq' : H4 q = some (.lst [.int (o : Int), .int (l : Int)]) := b4 _ _ (ne_of upd_same S3'.ob (by intro z; cases z)) upd_same
    have B4 := (B3.new hq).trans b4
    refine mk_Layer fun x dx2 H5 nx sa hx => ?_
    have n4 := B4.none S4.ob
    refine R.ok (.ord o l fl) p4 (by simp [Sh.layerAt, he, he2, he3, he4]) _ _ (B4.trans (.same sa)) (S4.bt (.same sa) (sa _ _ S4.ob) S4.le) ⟨x, dx2, q, v, rfl, dn_of (n4 x nx) hx, dn_of (B3.none S3.ob q hq) (sa _ _ hq'), ?_⟩
    exact IsFill.up (dn_mono (fun a h => (B3.new hq).none S3'.ob a h) fun a o _ z => sa _ _ z) is
  · have c' : ¬ n = 0 := fun z => by
      rw [z] at c
      simp at c
    have c1' : n = 1 := by omega
    subst c1'
    walk_at "rd"
    refine ⟨(0, 15), s, dx, cc, bs, p, rfl, trivial, S1, ⟨fun e he2 d H2 b2 hd => R.err e (by simp [Sh.layerAt, he, he2]) d H2 (b1.trans b2) hd, fun o p2 he2 v H2 b2 S2 is => ?_⟩⟩
    obtain rfl : v = .int (o : Int) := is
    have B2 := b1.trans b2
    walk_at "rd"
    refine ⟨(1, 10), s, dx, cc, bs, p2, rfl, trivial, S2, ⟨fun e he3 d H3 b3 hd => R.err e (by simp [Sh.layerAt, he, he2, he3]) d H3 (B2.trans b3) hd, fun l p3 he3 v H3 b3 S3 is => ?_⟩⟩
    obtain rfl : v = .int (l : Int) := is
    have B3 := B2.trans b3
    walk_at "rd"
    refine ⟨(0, 6), s, dx, cc, bs, p3, rfl, trivial, S3, ⟨fun e he4 d H4 b4 hd => R.err e (by simp [Sh.layerAt, he, he2, he3, he4]) d H4 (B3.trans b4) hd, fun m p4 he4 v H4 b4 S4 is => ?_⟩⟩
    obtain rfl : v = .int (m : Int) := is
    have B4 := B3.trans b4
    refine ⟨by show 3 ≤ sizeLine; decide, fun q hq => ?_⟩
    have S4' := S4.bt (Bt.refl.new (o := .lst [.int (o : Int), .int (l : Int), .int (m : Int)]) hq) ((upd_ne (ne_of_none S4.ob hq)).trans S4.ob) S4.le
    refine ⟨_, rfl, .inl ⟨rfl, _, SqL.of upd_same⟩, ?_⟩
    walk_at "rd"
    refine ⟨(1, 4), s, dx, cc, bs, p4, rfl, trivial, S4', ⟨fun e he5 d H5 b5 hd => R.err e (by simp [Sh.layerAt, he, he2, he3, he4, he5]) d H5 ((B4.new hq).trans b5) hd, fun sz p5 he5 v H5 b5 S5 is => ?_⟩⟩
    obtain rfl : v = .int (sz : Int) := is
    have nq : q ≠ s := ne_of upd_same S4'.ob (by intro z; cases z)
    have hq' : H5 q = some (.lst [.int (o : Int), .int (l : Int), .int (m : Int)]) := b5 _ _ nq upd_same
    refine ⟨q, _, _, rfl, rfl, hq', by show 3 < sizeLine; decide, ?_⟩
    have B5 : Bt s H (upd H5 q (.lst ([.int (o : Int), .int (l : Int), .int (m : Int)] ++ [.int (sz : Int)]))) := fun b u n1 h => by
      have n2 : b ≠ q := ne_of_none (B4 b u n1 h) hq
      rw [upd_ne n2]
      exact b5 b u n1 (by rw [upd_ne n2]; exact B4 b u n1 h)
    have S5' : Src K (He.ga K "Bytes") (upd H5 q (.lst ([.int (o : Int), .int (l : Int), .int (m : Int)] ++ [.int (sz : Int)]))) s dx cc bs p5 := S.bt B5 ((upd_ne (Ne.symm nq)).trans S5.ob) S5.le
    walk_at "rd"
    refine ⟨(ar, f), s, dx, cc, bs, p5, rfl, pre.bt S.ob B5, S5', ⟨fun e he6 d H6 b6 hd => R.err e (by simp [Sh.layerAt, he, he2, he3, he4, he5, he6]) d H6 (B5.trans b6) hd, fun fl p6 he6 v H6 b6 S6 is => ?_⟩⟩
    have hq6 : H6 q = some (.lst [.int (o : Int), .int (l : Int), .int (m : Int), .int (sz : Int)]) := b6 _ _ nq upd_same
    have B6 := B5.trans b6
    refine mk_Layer fun x dx2 H7 nx sa hx => ?_
    have n6 := B6.none S6.ob
    refine R.ok (.group o l m sz fl) p6 (by simp [Sh.layerAt, he, he2, he3, he4, he5, he6]) _ _ (B6.trans (.same sa)) (S6.bt (.same sa) (sa _ _ S6.ob) S6.le) ⟨x, dx2, q, v, rfl, dn_of (n6 x nx) hx, dn_of (B4.none S4.ob q hq) (sa _ _ hq6), ?_⟩
    exact IsFill.up (dn_mono (fun a h => B5.none S5'.ob a h) fun a o _ z => sa _ _ z) is
end
end Hc

namespace Hc
open PySem PySem.Spec PyProof.Rows L2
open Sh ShMarsh
set_option hygiene false
local macro_rules | `(tactic| walk_at "hp") => `(tactic| first | assumption | exact Src.ob (by assumption) | exact upd_same)
local macro_rules | `(tactic| walk_at "sq") => `(tactic| first | assumption | exact Src.sq (by assumption) | exact SqL.of (by assumption) | exact SqL.of upd_same | exact SqT.of (by assumption) | exact SqT.of upd_same)
local macro_rules | `(tactic| walk_at "cl") => `(tactic| with_reducible first | exact T.c_Bytes | exact T.c_Coat | exact T.c_Arms | exact T.c_Layer)
local macro_rules | `(tactic| walk_at "na") => `(tactic| with_reducible first | exact T.n_Bytes_some | exact T.n_Bytes_at | exact T.n_Coat_kind | exact T.n_Coat_arms | exact T.n_Coat_canton | exact T.n_Coat_marks | exact T.n_Coat_coats | exact T.n_Arms_field | exact T.n_Arms_layers | exact T.n_Layer_kind | exact T.n_Layer_numbers | exact T.n_Layer_fill)
local macro_rules | `(tactic| walk_at "ai") => `(tactic| first | assumption | exact atI_nat (by assumption) | rfl)
local macro_rules | `(tactic| walk_at "rd1") => `(tactic| first
  | refine ⟨_, rfl, ?_⟩
  | refine ⟨rfl, ?_⟩
  | refine ⟨_, _, rfl, rfl, ?_⟩
  | refine ⟨_, _, _, _, _, rfl, (by walk_at "hp"), (by walk_at "cl"), (by walk_at "na"), (by rfl), ?_⟩
  | refine ⟨_, _, _, _, rfl, (by walk_at "hp"), (by walk_at "cl"), (by walk_at "na"), Nat.le_of_ble_eq_true rfl, ?_⟩
  | refine ⟨_, _, _, _, rfl, rfl, (by walk_at "sq"), (by walk_at "ai"), ?_⟩
  | refine ⟨_, _, rfl, (by first | exact Or.inl (by walk_at "sq") | exact Or.inr (by walk_at "sq")), ?_⟩
  | refine ⟨(by walk_at "ar"), ?_⟩)
local macro_rules | `(tactic| walk_at "ar") => `(tactic| first | exact (show CDiv _ _ from ⟨by decide, by decide⟩) | exact (show (0 : Int) < _ from by decide) | exact (show CMul _ _ from .inl ⟨by omega, by omega⟩) | exact (show CMul _ _ from .inr ⟨by omega, by omega⟩))
local macro_rules | `(tactic| walk_at "rd") => `(tactic| repeat walk_at "rd1")
local macro_rules | `(tactic| walk_at "fa") => `(tactic| first | exact ⟨_, rfl, (by omega), rfl⟩ | exact ⟨_, _, rfl, (by omega), rfl⟩ | exact ⟨_, _, _, rfl, (by omega), rfl⟩ | exact ⟨_, _, _, _, rfl, (by omega), rfl⟩ | exact ⟨_, _, _, _, _, rfl, (by omega), rfl⟩)
local macro_rules | `(tactic| walk_at "vr") => `(tactic| first
  | exact v_var (by rfl)
  | exact v_c
  | (apply v_i0 <;> walk_at "vr")
  | (apply v_i <;> first | walk_at "ar" | walk_at "vr")
  | (apply v_neg <;> walk_at "vr")
  | (apply v_eq <;> walk_at "vr")
  | (apply v_eqB <;> walk_at "vr")
  | (apply v_ne <;> walk_at "vr")
  | (apply v_neB <;> walk_at "vr")
  | (apply v_chain (g := fun _ _ => _) (g' := fun _ _ => _) <;> walk_at "vr")
  | (apply v_and <;> walk_at "vr")
  | (apply v_or <;> walk_at "vr")
  | (apply v_not <;> walk_at "vr")
  | (apply v_ifI <;> walk_at "vr")
  | (apply v_ifB <;> walk_at "vr")
  | (apply v_call <;> first | walk_at "fa" | walk_at "vr")
  | (apply v_abs <;> walk_at "vr")
  | (apply v_min <;> walk_at "vr")
  | exact va_nil
  | (apply va_cons <;> walk_at "vr")
  | (apply a_test <;> walk_at "vr")
  | (apply a_B <;> walk_at "vr")
  | (apply a_and <;> walk_at "vr")
  | (apply a_or <;> walk_at "vr")
  | (apply a_not <;> walk_at "vr"))
local macro_rules | `(tactic| walk_at "rs") => `(tactic| first
  | (apply r_ret; walk_at "vr")
  | (apply r_set; walk_at "vr"; walk_at "rs")
  | (apply r_ifI; walk_at "vr"; intro _; walk_at "rs"; intro _; walk_at "rs")
  | (apply r_ifB; walk_at "vr"; intro _; walk_at "rs"; intro _; walk_at "rs"))

section
variable {P : Program} {w : World} {K : PySem.W.Frag} {mg : Str → Option Value} {base : Heap}
theorem ok_read_arms (T : Txt w K mg) (u_read_field : Cal P w K mg base (L2.CX P w) 5 "read_field" p_read_field (spField K)) (m_Arms : Mak P w K mg base 1 "Arms" p_Arms_init (spI_Arms K)) (u_read_byte : Cal P w K mg base (L2.CX P w) 3 "read_byte" p_read_byte (spByte K)) (u_read_layer : Cal P w K mg base (L2.CX P w) 7 "read_layer" p_read_layer (spLayer K)) : Cal P w K mg base (L2.CX P w) 8 "read_arms" p_read_arms (spArms K) := by
  refine T.d_read_arms.cal sc_read_arms (fun vs H Q E h => by obtain ⟨_, _, _, _, _, _, rfl, _⟩ := h; rfl) ?_
  intro cdv A outer s0 H vs Q E hr h
  have nd := sc_read_arms.nd
  have tk := tkX (P := P) (w := w) (K := K) (mg := mg) (base := base) (N := n_read_arms) (q := "read_arms") (sc := defScope s_read_arms) (f := He.ga K "read_arms") (cdv := cdv) (A := A) (outer := outer) (s := s0) (H := H) (E := E)
  have pX := paX (P := P) (w := w) (K := K) (mg := mg) (base := base) (N := n_read_arms) (q := "read_arms") (sc := defScope s_read_arms) (f := He.ga K "read_arms") (cdv := cdv) (A := A) (outer := outer) (s := s0) (H := H) (E := E)
  have po := poX (CX := L2.CX P w) (P := P) (w := w) (K := K) (mg := mg) (base := base) (N := n_read_arms) (q := "read_arms") (sc := defScope s_read_arms) (f := He.ga K "read_arms") (cdv := cdv) (A := A) (outer := outer) (s := s0) (H := H) (E := E)
  have h_read_field : Room (5) _ := hr.mono (by omega)
  have h_Arms : Room (2) _ := hr.mono (by omega)
  have h_read_byte : Room (3) _ := hr.mono (by omega)
  have h_read_layer : Room (7) _ := hr.mono (by omega)
  refine ⟨_, (pss_cons (ps_set (i := 1) nd rfl (Or.inl rfl) (pe_mak m_Arms (h_Arms) (pa_cons (pe_cal u_read_field (h_read_field) pX (pa_cons (pv 0) pa_nil)) pa_nil)))
      (pss_cons (ps_for po rfl (pi_range1 rfl T.f_range (pa_cons (pe_cal u_read_byte (h_read_byte) pX (pa_cons (pv 0) (pa_cons pe_int (pa_cons (pe_gi T.i_MOST_LAYERS) pa_nil)))) pa_nil)) (pg_name (i := 2) nd rfl (Or.inl rfl))
      (pss_one (ps_expr (pe_bm PySem.F.plainAttrs_list PySem.F.slot_list_append PySem.F.type_list_append mt_append (pe_fld (pv 1) rfl) (pa_cons (pe_cal u_read_layer (h_read_layer) pX (pa_cons (pv 0) (pa_cons (pv 1) pa_nil))) pa_nil)))))
      (pss_one (ps_ret (pv 1))))), ?_⟩
  try dsimp only [cxOf]
  clear h_read_layer h_read_byte h_Arms h_read_field po pX tk nd
  obtain ⟨_, s, dx, cc, bs, k, rfl, _, S, R⟩ := h
  walk_at "rd"
  refine ⟨(), s, dx, cc, bs, k, rfl, trivial, S, ⟨fun e he d H1 b1 hd => R.err e (by simp only [armsFrom, he]) d H1 b1 hd, fun f p he fv H1 b1 S1 isF => ?_⟩⟩
  refine mk_Arms fun x dxa l H2 nx nl sa hx hl => ?_
  have n1 := b1.none S1.ob
  have B2 : Bt s H H2 := b1.trans (.same sa)
  have S2 := S1.bt (.same sa) (sa _ _ S1.ob) S1.le
  have xs : x ≠ s := fun z => by rw [z, S1.ob] at nx; cases nx
  have lsn : l ≠ s := fun z => by rw [z, S1.ob] at nl; cases nl
  have xl : x ≠ l := ne_of hx hl (by intro z; cases z)
  walk_at "rd"
  refine ⟨(0, 8), s, dx, cc, bs, p, rfl, trivial, S2, ⟨fun e he2 d H3 b3 hd => R.err e (by simp only [armsFrom, he]; rw [show numAt 0 MOST ANY p (bs.drop p) = .error e from he2]) d H3 (B2.trans b3) hd, fun n p2 he2 v H3 b3 S3 is => ?_⟩⟩
  obtain rfl : v = .int (n : Int) := is
  obtain ⟨_, _, hn, _, _⟩ := num_is he2
  dsimp only at hn
  have he2' : numAt 0 MOST ANY p (bs.drop p) = .ok (n, p2, bs.drop p2) := he2
  refine ⟨n, rfl, by omega, by omega, ?_⟩
  refine for_range (lo := 0) (n := (n : Int).toNat) (fun i σ H' => ∃ (v3 : Option V) (vs : List V) (ls : List Layer) (q : Nat), σ = [some (.ref s), some (.ref x), v3] ∧ Bt2 s l H2 H' ∧ Src K (He.ga K "Bytes") H' s dx cc bs q ∧ H' l = some (.lst vs) ∧
    Paired (IsLayer K (Dn H2 H')) vs ls ∧ ls.length = i ∧ goesOn (layersFrom f n p2 (bs.drop p2)) (layersFrom f (n - i) q (bs.drop q)) ls) ?_ ?_ ?_
  · exact ⟨none, [], [], p2, rfl, .of b3, S3, b3 _ _ lsn hl, .nil, rfl, .start⟩
  · rintro i σ H3' hi ⟨v3, vs, ls, q, rfl, B3, S3', hl3, P3, len3, go3⟩
    have hx3 : H3' x = some (.ins (He.ga K "Arms") dxa (armF fv l)) := B3 _ _ xs xl hx
    have hi' : i < n := by omega
    have en : n - i = (n - (i + 1)) + 1 := by omega
    rw [en] at go3
    walk_at "rd"
    refine ⟨.inl ⟨rfl, _, SqL.of hl3⟩, ?_⟩
    obtain ⟨ff, rfl, hff⟩ := isF
    have hff1 := (of_dn hff).2
    have hff3 : H3' ff = some (.tup (fieldV f)) := B3 _ _ (ne_of hff1 S1.ob (by intro z; cases z)) (ne_of_none hff1 nl) (sa _ _ hff1)
    walk_at "rd"
    refine ⟨(x, f), s, dx, cc, bs, q, rfl, ⟨dxa, ff, l, hx3, hff3⟩, S3', ⟨fun e he4 d H4 b4 hd => R.err e ?_ d H4 (Bt2.drop b1 nl ((Bt2.of (.same sa)).trans (B3.trans (.of b4)))) hd, fun y p4 he4 v H4 b4 S4 is => ?_⟩⟩
    · have z := go3.err (e := e) (by simp only [layersFrom, he4])
      simp only [armsFrom, he, he2', z]
    · refine ⟨l, vs, _, rfl, rfl, b4 _ _ lsn hl3, ?_, ?_⟩
      · have z := Paired.length P3
        have z2 : vs.length ≤ 8 := by omega
        exact Nat.lt_of_le_of_lt z2 (by decide)
      · have BB : Bt2 s l H3' (upd H4 l (.lst (vs ++ [v]))) := (Bt2.of b4).put
        refine ⟨_, vs ++ [v], ls ++ [y], p4, rfl, B3.trans BB, S.bt (Bt2.drop b1 nl ((Bt2.of (.same sa)).trans (B3.trans BB))) ((upd_ne (Ne.symm lsn)).trans S4.ob) S4.le, upd_same, ?_, by simp [len3],
          go3.turn (fun e h => by simp only [layersFrom, he4, h]) fun r h => by simp only [layersFrom, he4, h]⟩
        refine Paired.snoc (Paired.up P3 fun _ _ z => IsLayer.up (BB.dn S2.ob hl) z) (IsLayer.up (dn_mono (B3.none S3'.ob hl3) fun a o n h => ?_) is)
        rw [upd_ne (fun z => by rw [z, hl3] at n; cases n)]
        exact h
  · rintro σ H3' ⟨v3, vs, ls, q, rfl, B3, S3', hl3, P3, len3, go3⟩
    have hx3 : H3' x = some (.ins (He.ga K "Arms") dxa (armF fv l)) := B3 _ _ xs xl hx
    have e0 : n - (n : Int).toNat = 0 := by omega
    rw [e0] at go3
    have z := go3.ok (p := q) (b := bs.drop q) rfl
    refine ⟨_, rfl, ?_⟩
    refine R.ok ⟨f, ls⟩ q (by simp only [armsFrom, he, he2', z]) (.ref x) H3' (Bt2.drop b1 nl ((Bt2.of (.same sa)).trans B3)) S3' ⟨x, dxa, l, fv, vs, rfl, dn_of (n1 x nx) hx3, ?_, dn_of (n1 l nl) hl3, ?_⟩
    · refine IsField.up (dn_mono (fun _ h => h) fun a o n h => B3 a o (fun z => ?_) (ne_of_none h nl) (sa _ _ h)) isF
      rw [z, S.ob] at n
      cases n
    · exact Paired.up P3 fun _ _ z => IsLayer.up (dn_mono (fun a h => n1 a (sa.free h)) fun a o _ h => h) z
end
end Hc

namespace Hc
open PySem PySem.Spec PyProof.Rows L2
open Sh ShMarsh
set_option hygiene false
local macro_rules | `(tactic| walk_at "hp") => `(tactic| first | assumption | exact Src.ob (by assumption) | exact upd_same)
local macro_rules | `(tactic| walk_at "sq") => `(tactic| first | assumption | exact Src.sq (by assumption) | exact SqL.of (by assumption) | exact SqL.of upd_same | exact SqT.of (by assumption) | exact SqT.of upd_same)
local macro_rules | `(tactic| walk_at "cl") => `(tactic| with_reducible first | exact T.c_Bytes | exact T.c_Coat | exact T.c_Arms | exact T.c_Layer)
local macro_rules | `(tactic| walk_at "na") => `(tactic| with_reducible first | exact T.n_Bytes_some | exact T.n_Bytes_at | exact T.n_Coat_kind | exact T.n_Coat_arms | exact T.n_Coat_canton | exact T.n_Coat_marks | exact T.n_Coat_coats | exact T.n_Arms_field | exact T.n_Arms_layers | exact T.n_Layer_kind | exact T.n_Layer_numbers | exact T.n_Layer_fill)
local macro_rules | `(tactic| walk_at "ai") => `(tactic| first | assumption | exact atI_nat (by assumption) | rfl)
local macro_rules | `(tactic| walk_at "rd1") => `(tactic| first
  | refine ⟨_, rfl, ?_⟩
  | refine ⟨rfl, ?_⟩
  | refine ⟨_, _, rfl, rfl, ?_⟩
  | refine ⟨_, _, _, _, _, rfl, (by walk_at "hp"), (by walk_at "cl"), (by walk_at "na"), (by rfl), ?_⟩
  | refine ⟨_, _, _, _, rfl, (by walk_at "hp"), (by walk_at "cl"), (by walk_at "na"), Nat.le_of_ble_eq_true rfl, ?_⟩
  | refine ⟨_, _, _, _, rfl, rfl, (by walk_at "sq"), (by walk_at "ai"), ?_⟩
  | refine ⟨_, _, rfl, (by first | exact Or.inl (by walk_at "sq") | exact Or.inr (by walk_at "sq")), ?_⟩
  | refine ⟨(by walk_at "ar"), ?_⟩)
local macro_rules | `(tactic| walk_at "ar") => `(tactic| first | exact (show CDiv _ _ from ⟨by decide, by decide⟩) | exact (show (0 : Int) < _ from by decide) | exact (show CMul _ _ from .inl ⟨by omega, by omega⟩) | exact (show CMul _ _ from .inr ⟨by omega, by omega⟩))
local macro_rules | `(tactic| walk_at "rd") => `(tactic| repeat walk_at "rd1")
local macro_rules | `(tactic| walk_at "fa") => `(tactic| first | exact ⟨_, rfl, (by omega), rfl⟩ | exact ⟨_, _, rfl, (by omega), rfl⟩ | exact ⟨_, _, _, rfl, (by omega), rfl⟩ | exact ⟨_, _, _, _, rfl, (by omega), rfl⟩ | exact ⟨_, _, _, _, _, rfl, (by omega), rfl⟩)
local macro_rules | `(tactic| walk_at "vr") => `(tactic| first
  | exact v_var (by rfl)
  | exact v_c
  | (apply v_i0 <;> walk_at "vr")
  | (apply v_i <;> first | walk_at "ar" | walk_at "vr")
  | (apply v_neg <;> walk_at "vr")
  | (apply v_eq <;> walk_at "vr")
  | (apply v_eqB <;> walk_at "vr")
  | (apply v_ne <;> walk_at "vr")
  | (apply v_neB <;> walk_at "vr")
  | (apply v_chain (g := fun _ _ => _) (g' := fun _ _ => _) <;> walk_at "vr")
  | (apply v_and <;> walk_at "vr")
  | (apply v_or <;> walk_at "vr")
  | (apply v_not <;> walk_at "vr")
  | (apply v_ifI <;> walk_at "vr")
  | (apply v_ifB <;> walk_at "vr")
  | (apply v_call <;> first | walk_at "fa" | walk_at "vr")
  | (apply v_abs <;> walk_at "vr")
  | (apply v_min <;> walk_at "vr")
  | exact va_nil
  | (apply va_cons <;> walk_at "vr")
  | (apply a_test <;> walk_at "vr")
  | (apply a_B <;> walk_at "vr")
  | (apply a_and <;> walk_at "vr")
  | (apply a_or <;> walk_at "vr")
  | (apply a_not <;> walk_at "vr"))
local macro_rules | `(tactic| walk_at "rs") => `(tactic| first
  | (apply r_ret; walk_at "vr")
  | (apply r_set; walk_at "vr"; walk_at "rs")
  | (apply r_ifI; walk_at "vr"; intro _; walk_at "rs"; intro _; walk_at "rs")
  | (apply r_ifB; walk_at "vr"; intro _; walk_at "rs"; intro _; walk_at "rs"))

section
variable {P : Program} {w : World} {K : PySem.W.Frag} {mg : Str → Option Value} {base : Heap}
theorem ok_read_marked (T : Txt w K mg) (m_Coat : Mak P w K mg base 1 "Coat" p_Coat_init (spI_Coat K)) (u_read_arms : Cal P w K mg base (L2.CX P w) 8 "read_arms" p_read_arms (spArms K)) (u_read_byte : Cal P w K mg base (L2.CX P w) 3 "read_byte" p_read_byte (spByte K)) : Cal P w K mg base (L2.CX P w) 9 "read_marked" p_read_marked (spMarked K) := by
  refine T.d_read_marked.cal sc_read_marked (fun vs H Q E h => by obtain ⟨_, _, _, _, _, _, rfl, _⟩ := h; rfl) ?_
  intro cdv A outer s0 H vs Q E hr h
  have nd := sc_read_marked.nd
  have tk := tkX (P := P) (w := w) (K := K) (mg := mg) (base := base) (N := n_read_marked) (q := "read_marked") (sc := defScope s_read_marked) (f := He.ga K "read_marked") (cdv := cdv) (A := A) (outer := outer) (s := s0) (H := H) (E := E)
  have pX := paX (P := P) (w := w) (K := K) (mg := mg) (base := base) (N := n_read_marked) (q := "read_marked") (sc := defScope s_read_marked) (f := He.ga K "read_marked") (cdv := cdv) (A := A) (outer := outer) (s := s0) (H := H) (E := E)
  have po := poX (CX := L2.CX P w) (P := P) (w := w) (K := K) (mg := mg) (base := base) (N := n_read_marked) (q := "read_marked") (sc := defScope s_read_marked) (f := He.ga K "read_marked") (cdv := cdv) (A := A) (outer := outer) (s := s0) (H := H) (E := E)
  have h_Coat : Room (2) _ := hr.mono (by omega)
  have h_read_arms : Room (8) _ := hr.mono (by omega)
  have h_read_byte : Room (3) _ := hr.mono (by omega)
  refine ⟨_, (pss_cons (ps_set (i := 1) nd rfl (Or.inl rfl) (pe_mak m_Coat (h_Coat) (pa_cons (pe_gi T.i_MARKED) pa_nil)))
      (pss_cons (ps_fld (pv 1) (pe_cal u_read_arms (h_read_arms) pX (pa_cons (pv 0) pa_nil)) rfl)
      (Evl.pss_cut (ps_if (pt_cmpR op_eq (pe_cal u_read_byte (h_read_byte) pX (pa_cons (pv 0) (pa_cons pe_int (pa_cons pe_int pa_nil)))) pe_int (nomark _)) (pss_one (ps_fld (pv 1) (pe_cal u_read_arms (h_read_arms) pX (pa_cons (pv 0) pa_nil)) rfl)) pss_nil)
      (pss_cons (ps_for po rfl (pi_range1 rfl T.f_range (pa_cons (pe_cal u_read_byte (h_read_byte) pX (pa_cons (pv 0) (pa_cons pe_int (pa_cons (pe_gi T.i_MOST_MARKS) pa_nil)))) pa_nil)) (pg_name (i := 2) nd rfl (Or.inl rfl))
      (pss_cons (ps_set (i := 3) nd rfl (Or.inl rfl) (pe_cal u_read_byte (h_read_byte) pX (pa_cons (pv 0) (pa_cons pe_int (pa_cons pe_int pa_nil)))))
      (pss_one (ps_expr (pe_bm PySem.F.plainAttrs_list PySem.F.slot_list_append PySem.F.type_list_append mt_append (pe_fld (pv 1) rfl) (pa_cons (pe_tup (pa_cons (pv 3) (pa_cons (pe_cal u_read_byte (h_read_byte) pX (pa_cons (pv 0) (pa_cons pe_int (pa_cons pe_int pa_nil)))) pa_nil))) pa_nil))))))
      (pss_one (ps_ret (pv 1))))))), ?_⟩
  try dsimp only [cxOf]
  clear h_read_byte h_read_arms h_Coat po pX tk nd
  obtain ⟨_, s, dx, cc, bs, k, rfl, _, S, R⟩ := h
  walk_at "rd"
  refine mk_Coat (n := 0) fun x dxc ml cl H1 nx nm nc mc sa hx hm hc => ?_
  have xs : x ≠ s := fun z => by rw [z, S.ob] at nx; cases nx
  have ms' : ml ≠ s := fun z => by rw [z, S.ob] at nm; cases nm
  have cs : cl ≠ s := fun z => by rw [z, S.ob] at nc; cases nc
  have xm : x ≠ ml := ne_of hx hm (by intro z; cases z)
  have xc : x ≠ cl := ne_of hx hc (by intro z; cases z)
  have S1 := S.bt (.same sa) (sa _ _ S.ob) S.le
  have drop : ∀ {H'}, BtM [s, x, ml] H1 H' → Bt s H H' := fun {H'} e => BtM.drop (Bt.refl (H := H)) (fun m hm => by
    rcases List.mem_cons.mp hm with q | hm
    · exact .inl q
    rcases List.mem_cons.mp hm with q | hm
    · exact .inr (q ▸ nx)
    rcases List.mem_cons.mp hm with q | hm
    · exact .inr (q ▸ nm)
    · cases hm) ((BtM.same sa).trans e)
  have G1 : ∀ m ∈ [s, x, ml], H1 m ≠ none := fun m hm' => by
    rcases List.mem_cons.mp hm' with q | hm'
    · rw [q, S1.ob]; simp
    rcases List.mem_cons.mp hm' with q | hm'
    · rw [q, hx]; simp
    rcases List.mem_cons.mp hm' with q | hm'
    · rw [q, hm]; simp
    · cases hm'
  walk_at "rd"
  refine ⟨(), s, dx, cc, bs, k, rfl, trivial, S1, ⟨fun e he d H2 b2 hd => R.err e (by simp only [markedFrom, he]) d H2 ((Bt.same sa).trans b2) hd, fun am p he av H2 b2 S2 isA => ?_⟩⟩
  have hx2 : H2 x = some (.ins (He.ga K "Coat") dxc (coaF 0 .non .non ml cl)) := b2 _ _ xs hx
  walk_at "rd"
  have F3 : BtM [s, x, ml] H1 (upd H2 x (.ins (He.ga K "Coat") dxc (coaF 0 av .non ml cl))) := (BtM.of b2 (by simp)).put (by simp)
  have hx3 : upd H2 x (.ins (He.ga K "Coat") dxc (coaF 0 av .non ml cl)) x = some (.ins (He.ga K "Coat") dxc (coaF 0 av .non ml cl)) := upd_same
  have hm3 : upd H2 x (.ins (He.ga K "Coat") dxc (coaF 0 av .non ml cl)) ml = some (.lst []) := (upd_ne (Ne.symm xm)).trans (b2 _ _ ms' hm)
  have S3 : Src K (He.ga K "Bytes") (upd H2 x (.ins (He.ga K "Coat") dxc (coaF 0 av .non ml cl))) s dx cc bs p := S.bt (drop F3) ((upd_ne (Ne.symm xs)).trans S2.ob) S2.le
  have A3 : IsArms K (Dn H1 (upd H2 x (.ins (He.ga K "Coat") dxc (coaF 0 av .non ml cl)))) av am := IsArms.up ((BtM.same (M := [s, x, ml]) (fun _ _ h => h)).put (by simp) |>.dn G1) isA
  show Evl.tCut _ _ _ _ (upd H2 x (.ins (He.ga K "Coat") dxc (coaF 0 av .non ml cl)))
  generalize upd H2 x (.ins (He.ga K "Coat") dxc (coaF 0 av .non ml cl)) = H3 at *
  refine ⟨fun σ H4 => σ = [some (.ref s), some (.ref x), none, none] ∧ ∃ (cv : V) (cant : Option Arms) (q : Nat), BtM [s, x, ml] H1 H4 ∧ Src K (He.ga K "Bytes") H4 s dx cc bs q ∧ H4 x = some (.ins (He.ga K "Coat") dxc (coaF 0 av cv ml cl)) ∧ H4 ml = some (.lst []) ∧
    IsArms K (Dn H1 H4) av am ∧ IsCant K (Dn H1 H4) cv cant ∧ (∀ e, numAt 0 MARKS ANY q (bs.drop q) = .error e → markedFrom k (bs.drop k) = .error e) ∧
    (∀ n p2 e, numAt 0 MARKS ANY q (bs.drop q) = .ok (n, p2, bs.drop p2) → marksFrom n p2 (bs.drop p2) = .error e → markedFrom k (bs.drop k) = .error e) ∧
    (∀ n p2 ms p3, numAt 0 MARKS ANY q (bs.drop q) = .ok (n, p2, bs.drop p2) → marksFrom n p2 (bs.drop p2) = .ok (ms, p3, bs.drop p3) → markedFrom k (bs.drop k) = .ok (⟨am, cant, ms⟩, p3, bs.drop p3)), ?_, ?_⟩
  · walk_at "rd"
    refine ⟨(0, 1), s, dx, cc, bs, p, rfl, trivial, S3, ⟨fun e he2 d H4 b4 hd => R.err e (by simp only [markedFrom, he]; rw [show numAt 0 1 ANY p (bs.drop p) = .error e from he2]) d H4 ((drop F3).trans b4) hd, fun n p2 he2 v H4 b4 S4 is => ?_⟩⟩
    obtain rfl : v = .int (n : Int) := is
    obtain ⟨_, _, hn, _, _⟩ := num_is he2
    have he2' : numAt 0 1 ANY p (bs.drop p) = .ok (n, p2, bs.drop p2) := he2
    have F4 : BtM [s, x, ml] H1 H4 := F3.trans (.of b4 (by simp))
    have hx4 : H4 x = some (.ins (He.ga K "Coat") dxc (coaF 0 av .non ml cl)) := b4 _ _ xs hx3
    have hm4 : H4 ml = some (.lst []) := b4 _ _ ms' hm3
    have A4 : IsArms K (Dn H1 H4) av am := IsArms.up ((BtM.of b4 (M := [s, x, ml]) (by simp)).dn G1) A3
    walk_at "rd"
    refine iteB (fun c => ?_) fun c => ?_
    · have c' : n = 1 := by
        have z := of_decide_eq_true c
        injection z with z
        omega
      subst c'
      walk_at "rd"
      refine ⟨(), s, dx, cc, bs, p2, rfl, trivial, S4, ⟨fun e he3 d H5 b5 hd => R.err e (by simp [markedFrom, he, he2', he3, Except.map]) d H5 ((drop F4).trans b5) hd, fun cm p3 he3 cv H5 b5 S5 isC => ?_⟩⟩
      have hx5 : H5 x = some (.ins (He.ga K "Coat") dxc (coaF 0 av .non ml cl)) := b5 _ _ xs hx4
      walk_at "rd"
      have F6 : BtM [s, x, ml] H1 (upd H5 x (.ins (He.ga K "Coat") dxc (coaF 0 av cv ml cl))) := (F4.trans (.of b5 (by simp))).put (by simp)
      have G56 : BtM [s, x, ml] H5 (upd H5 x (.ins (He.ga K "Coat") dxc (coaF 0 av cv ml cl))) := (BtM.same (fun _ _ h => h)).put (by simp)
      have G46 : BtM [s, x, ml] H4 (upd H5 x (.ins (He.ga K "Coat") dxc (coaF 0 av cv ml cl))) := (BtM.of b5 (by simp)).put (by simp)
      refine ⟨cv, some cm, p3, F6, S.bt (drop F6) ((upd_ne (Ne.symm xs)).trans S5.ob) S5.le, upd_same, (upd_ne (Ne.symm xm)).trans (b5 _ _ ms' hm4), IsArms.up (G46.dn G1) A4, IsArms.up ?_ isC, fun e h => ?_, fun n p2 e h h2 => ?_, fun n p2 ms p3 h h2 => ?_⟩
      · refine dn_mono (F4.none fun m hm' => ?_) fun a o n h => G56 a o (fun z => ?_) h
        · rcases List.mem_cons.mp hm' with q | hm'
          · rw [q, S4.ob]; simp
          rcases List.mem_cons.mp hm' with q | hm'
          · rw [q, hx4]; simp
          rcases List.mem_cons.mp hm' with q | hm'
          · rw [q, hm4]; simp
          · cases hm'
        · rcases List.mem_cons.mp z with q | z
          · rw [q, S4.ob] at n; cases n
          rcases List.mem_cons.mp z with q | z
          · rw [q, hx4] at n; cases n
          rcases List.mem_cons.mp z with q | z
          · rw [q, hm4] at n; cases n
          · cases z
      · simp [markedFrom, he, he2', he3, Except.map, h]
      · simp [markedFrom, he, he2', he3, Except.map, h, h2]
      · simp [markedFrom, he, he2', he3, Except.map, h, h2]
    · have c' : n = 0 := by
        by_cases z : n = 1
        · rw [z] at c
          simp at c
        · dsimp only at hn
          omega
      subst c'
      refine ⟨rfl, .non, none, p2, F4, S4, hx4, hm4, A4, rfl, fun e h => ?_, fun n p2 e h h2 => ?_, fun n p2 ms p3 h h2 => ?_⟩
      · simp [markedFrom, he, he2', h]
      · simp [markedFrom, he, he2', h, h2]
      · simp [markedFrom, he, he2', h, h2]
  · rintro σ H4 ⟨rfl, cv, cant, q, F4, S4, hx4, hm4, A4, C4, e1, e2, e3⟩
    walk_at "rd"
    refine ⟨(0, 60), s, dx, cc, bs, q, rfl, trivial, S4, ⟨fun e he2 d H5 b5 hd => R.err e (e1 e he2) d H5 ((drop F4).trans b5) hd, fun n p2 he2 v H5 b5 S5 is => ?_⟩⟩
    obtain rfl : v = .int (n : Int) := is
    obtain ⟨_, _, hn, _, _⟩ := num_is he2
    dsimp only at hn
    have he2' : numAt 0 MARKS ANY q (bs.drop q) = .ok (n, p2, bs.drop p2) := he2
    have F5 : BtM [s, x, ml] H1 H5 := F4.trans (.of b5 (by simp))
    have A5 := IsArms.up ((BtM.of b5 (M := [s, x, ml]) (by simp)).dn G1) A4
    have C5 := IsCant.up ((BtM.of b5 (M := [s, x, ml]) (by simp)).dn G1) C4
    have hx5 := b5 _ _ xs hx4
    have hm5 := b5 _ _ ms' hm4
    refine ⟨n, rfl, by omega, by omega, ?_⟩
    refine for_range (lo := 0) (n := (n : Int).toNat) (fun i σ H' => ∃ (v2 v3 : Option V) (vs : List V) (ls : List (Nat × Nat)) (q : Nat), σ = [some (.ref s), some (.ref x), v2, v3] ∧ BtM [s, x, ml] H1 H' ∧ Src K (He.ga K "Bytes") H' s dx cc bs q ∧
      H' x = some (.ins (He.ga K "Coat") dxc (coaF 0 av cv ml cl)) ∧ H' ml = some (.lst vs) ∧ IsArms K (Dn H1 H') av am ∧ IsCant K (Dn H1 H') cv cant ∧
      Paired (IsMark (Dn H1 H')) vs ls ∧ ls.length = i ∧ goesOn (marksFrom n p2 (bs.drop p2)) (marksFrom (n - i) q (bs.drop q)) ls) ?_ ?_ ?_
    · exact ⟨none, none, [], [], p2, rfl, F5, S5, hx5, hm5, A5, C5, .nil, rfl, .start⟩
    · rintro i σ H6 hi ⟨v2, v3, vs, ls, q, rfl, F6, S6, hx6, hm6, A6, C6, P6, len6, go6⟩
      have hi' : i < n := by omega
      have en : n - i = (n - (i + 1)) + 1 := by omega
      rw [en] at go6
      walk_at "rd"
      refine ⟨(0, 127), s, dx, cc, bs, q, rfl, trivial, S6, ⟨fun e he7 d H7 b7 hd => R.err e (e2 _ _ e he2' (go6.err (by simp only [marksFrom, he7]))) d H7 ((drop F6).trans b7) hd, fun g q1 he7 v H7 b7 S7 is => ?_⟩⟩
      obtain rfl : v = .int (g : Int) := is
      have F7 := F6.trans (.of b7 (M := [s, x, ml]) (by simp))
      have hx7 := b7 _ _ xs hx6
      have hm7 := b7 _ _ ms' hm6
      walk_at "rd"
      refine ⟨.inl ⟨rfl, _, SqL.of hm7⟩, ?_⟩
      walk_at "rd"
      refine ⟨(1, 255), s, dx, cc, bs, q1, rfl, trivial, S7, ⟨fun e he8 d H8 b8 hd => R.err e (e2 _ _ e he2' (go6.err (by simp only [marksFrom, he7, he8]))) d H8 ((drop F7).trans b8) hd, fun kk q2 he8 v H8 b8 S8 is => ?_⟩⟩
      obtain rfl : v = .int (kk : Int) := is
      have F8 := F7.trans (.of b8 (M := [s, x, ml]) (by simp))
      have hx8 := b8 _ _ xs hx7
      have hm8 := b8 _ _ ms' hm7
      refine ⟨by show 2 ≤ sizeLine; decide, fun t ht => ?_⟩
      have nt : ml ≠ t := ne_of_none hm8 ht
      refine ⟨ml, vs, _, rfl, rfl, (upd_ne nt).trans hm8, ?_, ?_⟩
      · have z := Paired.length P6
        have z2 : vs.length ≤ 60 := by omega
        exact Nat.lt_of_le_of_lt z2 (by decide)
      · have F9 : BtM [s, x, ml] H1 (upd (upd H8 t (.tup [.int (g : Int), .int (kk : Int)])) ml (.lst (vs ++ [.ref t]))) := (F8.new ht).put (by simp)
        have G9 : BtM [s, x, ml] H6 (upd (upd H8 t (.tup [.int (g : Int), .int (kk : Int)])) ml (.lst (vs ++ [.ref t]))) := (((BtM.of b7 (by simp)).trans (.of b8 (by simp))).new ht).put (by simp)
        have nt0 : H1 t = none := F8.none (fun m hm' => by
          rcases List.mem_cons.mp hm' with q | hm'
          · rw [q, S8.ob]; simp
          rcases List.mem_cons.mp hm' with q | hm'
          · rw [q, hx8]; simp
          rcases List.mem_cons.mp hm' with q | hm'
          · rw [q, hm8]; simp
          · cases hm') t ht
        refine ⟨_, _, vs ++ [.ref t], ls ++ [(g, kk)], q2, rfl, F9, S.bt (drop F9) ?_ S8.le, ?_, upd_same, IsArms.up (G9.dn G1) A6, IsCant.up (G9.dn G1) C6, ?_, by simp [len6],
          go6.turn (fun e h => by simp only [marksFrom, he7, he8, h]) fun r h => by simp only [marksFrom, he7, he8, h]⟩
        · rw [upd_ne (Ne.symm ms'), upd_ne (ne_of_none S8.ob ht)]
          exact S8.ob
        · rw [upd_ne xm, upd_ne (ne_of_none hx8 ht)]
          exact hx8
        · refine Paired.snoc (Paired.up P6 fun _ _ z => IsTwo.up (G9.dn G1) z) ⟨t, rfl, dn_of nt0 ?_⟩
          rw [upd_ne (Ne.symm nt)]
          exact upd_same
    · rintro σ H6 ⟨v2, v3, vs, ls, q, rfl, F6, S6, hx6, hm6, A6, C6, P6, len6, go6⟩
      have e0 : n - (n : Int).toNat = 0 := by omega
      rw [e0] at go6
      have z := go6.ok (p := q) (b := bs.drop q) rfl
      refine ⟨_, rfl, ?_⟩
      have U : Same (Dn H1 H6) (Dn H H6) := dn_mono (fun a h => sa.free h) fun _ _ _ h => h
      exact R.ok ⟨am, cant, ls⟩ q (e3 _ _ _ _ he2' z) (.ref x) H6 (drop F6) S6 ⟨x, dxc, ml, cl, av, cv, vs, rfl, dn_of nx hx6, IsArms.up U A6, IsCant.up U C6, dn_of nm hm6, Paired.up P6 fun _ _ z => IsTwo.up U z, dn_of nc (F6 _ _ (by simp [cs, Ne.symm xc, mc.symm]) hc)⟩
end
end Hc

namespace Hc
open PySem PySem.Spec PyProof.Rows L2
open Sh ShMarsh
set_option hygiene false
local macro_rules | `(tactic| walk_at "hp") => `(tactic| first | assumption | exact Src.ob (by assumption) | exact upd_same)
local macro_rules | `(tactic| walk_at "sq") => `(tactic| first | assumption | exact Src.sq (by assumption) | exact SqL.of (by assumption) | exact SqL.of upd_same | exact SqT.of (by assumption) | exact SqT.of upd_same)
local macro_rules | `(tactic| walk_at "cl") => `(tactic| with_reducible first | exact T.c_Bytes | exact T.c_Coat | exact T.c_Arms | exact T.c_Layer)
local macro_rules | `(tactic| walk_at "na") => `(tactic| with_reducible first | exact T.n_Bytes_some | exact T.n_Bytes_at | exact T.n_Coat_kind | exact T.n_Coat_arms | exact T.n_Coat_canton | exact T.n_Coat_marks | exact T.n_Coat_coats | exact T.n_Arms_field | exact T.n_Arms_layers | exact T.n_Layer_kind | exact T.n_Layer_numbers | exact T.n_Layer_fill)
local macro_rules | `(tactic| walk_at "ai") => `(tactic| first | assumption | exact atI_nat (by assumption) | rfl)
local macro_rules | `(tactic| walk_at "rd1") => `(tactic| first
  | refine ⟨_, rfl, ?_⟩
  | refine ⟨rfl, ?_⟩
  | refine ⟨_, _, rfl, rfl, ?_⟩
  | refine ⟨_, _, _, _, _, rfl, (by walk_at "hp"), (by walk_at "cl"), (by walk_at "na"), (by rfl), ?_⟩
  | refine ⟨_, _, _, _, rfl, (by walk_at "hp"), (by walk_at "cl"), (by walk_at "na"), Nat.le_of_ble_eq_true rfl, ?_⟩
  | refine ⟨_, _, _, _, rfl, rfl, (by walk_at "sq"), (by walk_at "ai"), ?_⟩
  | refine ⟨_, _, rfl, (by first | exact Or.inl (by walk_at "sq") | exact Or.inr (by walk_at "sq")), ?_⟩
  | refine ⟨(by walk_at "ar"), ?_⟩)
local macro_rules | `(tactic| walk_at "ar") => `(tactic| first | exact (show CDiv _ _ from ⟨by decide, by decide⟩) | exact (show (0 : Int) < _ from by decide) | exact (show CMul _ _ from .inl ⟨by omega, by omega⟩) | exact (show CMul _ _ from .inr ⟨by omega, by omega⟩))
local macro_rules | `(tactic| walk_at "rd") => `(tactic| repeat walk_at "rd1")
local macro_rules | `(tactic| walk_at "fa") => `(tactic| first | exact ⟨_, rfl, (by omega), rfl⟩ | exact ⟨_, _, rfl, (by omega), rfl⟩ | exact ⟨_, _, _, rfl, (by omega), rfl⟩ | exact ⟨_, _, _, _, rfl, (by omega), rfl⟩ | exact ⟨_, _, _, _, _, rfl, (by omega), rfl⟩)
local macro_rules | `(tactic| walk_at "vr") => `(tactic| first
  | exact v_var (by rfl)
  | exact v_c
  | (apply v_i0 <;> walk_at "vr")
  | (apply v_i <;> first | walk_at "ar" | walk_at "vr")
  | (apply v_neg <;> walk_at "vr")
  | (apply v_eq <;> walk_at "vr")
  | (apply v_eqB <;> walk_at "vr")
  | (apply v_ne <;> walk_at "vr")
  | (apply v_neB <;> walk_at "vr")
  | (apply v_chain (g := fun _ _ => _) (g' := fun _ _ => _) <;> walk_at "vr")
  | (apply v_and <;> walk_at "vr")
  | (apply v_or <;> walk_at "vr")
  | (apply v_not <;> walk_at "vr")
  | (apply v_ifI <;> walk_at "vr")
  | (apply v_ifB <;> walk_at "vr")
  | (apply v_call <;> first | walk_at "fa" | walk_at "vr")
  | (apply v_abs <;> walk_at "vr")
  | (apply v_min <;> walk_at "vr")
  | exact va_nil
  | (apply va_cons <;> walk_at "vr")
  | (apply a_test <;> walk_at "vr")
  | (apply a_B <;> walk_at "vr")
  | (apply a_and <;> walk_at "vr")
  | (apply a_or <;> walk_at "vr")
  | (apply a_not <;> walk_at "vr"))
local macro_rules | `(tactic| walk_at "rs") => `(tactic| first
  | (apply r_ret; walk_at "vr")
  | (apply r_set; walk_at "vr"; walk_at "rs")
  | (apply r_ifI; walk_at "vr"; intro _; walk_at "rs"; intro _; walk_at "rs")
  | (apply r_ifB; walk_at "vr"; intro _; walk_at "rs"; intro _; walk_at "rs"))

/-- the coat of a kind and its coats -/
def mkCoat (n : Nat) (l : List Coat) : Coat := match n, l with
  | 2, [a, b] => .impaled a b
  | 3, [a, b] => .pretence a b
  | _, l => .quarters l
theorem IsCoats.snoc {K : PySem.W.Frag} {D : Hp} : ∀ {vs : List V} {ls : List Coat} {v : V} {c : Coat}, IsCoats K D vs ls → IsCoat K D v c → IsCoats K D (vs ++ [v]) (ls ++ [c])
  | [], [], v, c, _, h => by
    show IsCoats K D [v] [c]
    unfold IsCoats
    exact ⟨h, by unfold IsCoats; trivial⟩
  | a :: vs, b :: ls, v, c, h, hc => by
    show IsCoats K D (a :: (vs ++ [v])) (b :: (ls ++ [c]))
    unfold IsCoats at h ⊢
    exact ⟨h.1, IsCoats.snoc h.2 hc⟩
  | [], _ :: _, _, _, h, _ => by unfold IsCoats at h; exact h.elim
  | _ :: _, [], _, _, h, _ => by unfold IsCoats at h; exact h.elim
theorem IsCoats.len {K : PySem.W.Frag} {D : Hp} : ∀ {vs : List V} {ls : List Coat}, IsCoats K D vs ls → vs.length = ls.length
  | [], [], _ => rfl
  | _ :: vs, _ :: ls, h => by
    unfold IsCoats at h
    exact congrArg Nat.succ (IsCoats.len h.2)
  | [], _ :: _, h => by unfold IsCoats at h; exact h.elim
  | _ :: _, [], h => by unfold IsCoats at h; exact h.elim
theorem several_err1 {one : Nat → B → Except Nat (Coat × Nat × B)} {m q : Nat} {b : B} {e : Nat} (h : one q b = .error e) : several one (m + 1) q b = .error e := by simp only [several, h]
/-- two coats, one behind another -/
theorem several_two {one : Nat → B → Except Nat (Coat × Nat × B)} {q : Nat} {b : B} : several one 2 q b = match one q b with
    | .error e => .error e
    | .ok x => match one x.2.1 x.2.2 with
      | .error e => .error e
      | .ok y => .ok ([x.1, y.1], y.2) := by
  cases h : one q b with
  | error e => simp only [several, h]
  | ok x =>
    cases h2 : one x.2.1 x.2.2 with
    | error e => simp only [several, h, h2]
    | ok y => simp only [several, h, h2]
theorem mkCoat_1 (l : List Coat) : mkCoat 1 l = .quarters l := by simp [mkCoat]
theorem mkCoat_2 (a b : Coat) : mkCoat 2 [a, b] = .impaled a b := by simp [mkCoat]
theorem mkCoat_3 (a b : Coat) : mkCoat 3 [a, b] = .pretence a b := by simp [mkCoat]
theorem len_two {α : Type} : ∀ {l : List α}, l.length = 2 → ∃ a b, l = [a, b]
  | [a, b], _ => ⟨a, b, rfl⟩
theorem isCoat_mk {K : PySem.W.Frag} {D : Hp} {n : Nat} {x dx ml cl : Addr} {vs : List V} {ls : List Coat} (hn : n = 1 ∨ ((n = 2 ∨ n = 3) ∧ ls.length = 2)) (hx : D x = some (.ins (He.ga K "Coat") dx (coaF n .non .non ml cl))) (hm : D ml = some (.lst [])) (hc : D cl = some (.lst vs)) (h : IsCoats K D vs ls) :
    IsCoat K D (.ref x) (mkCoat n ls) := by
  rcases hn with rfl | ⟨hn, h2⟩
  · rw [mkCoat_1]
    unfold IsCoat
    exact ⟨x, dx, ml, cl, vs, rfl, hx, hm, hc, h⟩
  · obtain ⟨a, b, rfl⟩ := len_two h2
    obtain ⟨va, vb, rfl⟩ := len_two (h.len.trans h2)
    unfold IsCoats at h
    obtain ⟨ha, hb⟩ := h
    unfold IsCoats at hb
    rcases hn with rfl | rfl
    · rw [mkCoat_2]
      unfold IsCoat
      exact ⟨x, dx, ml, cl, va, vb, rfl, hx, hm, hc, ha, hb.1⟩
    · rw [mkCoat_3]
      unfold IsCoat
      exact ⟨x, dx, ml, cl, va, vb, rfl, hx, hm, hc, ha, hb.1⟩
/-- one depth of a coat's reading -/
def coatStep (one : Nat → B → Except Nat (Coat × Nat × B)) (hi p : Nat) (b : B) : Except Nat (Coat × Nat × B) := match numAt 0 hi ANY p b with
  | .error e => .error e
  | .ok k => if k.1 = 0 then (match markedFrom k.2.1 k.2.2 with
      | .error e => .error e
      | .ok m => .ok (.one m.1, m.2))
    else if k.1 = 1 then (match numAt 2 QUARTERS ANY k.2.1 k.2.2 with
      | .error e => .error e
      | .ok n => match several one n.1 n.2.1 n.2.2 with
        | .error e => .error e
        | .ok l => .ok (.quarters l.1, l.2))
    else match one k.2.1 k.2.2 with
      | .error e => .error e
      | .ok x => match one x.2.1 x.2.2 with
        | .error e => .error e
        | .ok y => .ok (if k.1 = 2 then .impaled x.1 y.1 else .pretence x.1 y.1, y.2)
theorem coatFrom_s (d p : Nat) (b : B) : coatFrom (d + 1) p b = coatStep (coatFrom d) (if d = 0 then 0 else 3) p b := by
  rw [coatFrom]
  rfl
/-- a coat at a depth (fuel d) -/
def spCoat (K : PySem.W.Frag) : Nat → Sp
  | 0 => fun _ _ _ _ => False
  | d + 1 => spRd (ι := Unit) K (fun _ => [.int ((4 : Int) - (d : Nat))]) (fun _ _ => True) (fun _ => coatFrom (d + 1)) (IsCoat K)
section
variable {P : Program} {w : World} {K : PySem.W.Frag} {mg : Str → Option Value} {base : Heap}
theorem step_read_coat (T : Txt w K mg) (u_read_byte : Cal P w K mg base (L2.CX P w) 3 "read_byte" p_read_byte (spByte K)) (u_read_marked : Cal P w K mg base (L2.CX P w) 9 "read_marked" p_read_marked (spMarked K)) (m_Coat : Mak P w K mg base 1 "Coat" p_Coat_init (spI_Coat K)) (d : Nat) (u_read_coat : Cal P w K mg base (L2.CX P w) (15 + d) "read_coat" p_read_coat (spCoat K d)) : Cal P w K mg base (L2.CX P w) (15 + d + 1) "read_coat" p_read_coat (spCoat K (d + 1)) := by
  refine T.d_read_coat.cal sc_read_coat (fun vs H Q E h => by obtain ⟨_, _, _, _, _, _, rfl, _⟩ := h; rfl) ?_
  intro cdv A outer s0 H vs Q E hr h
  have nd := sc_read_coat.nd
  have tk := tkX (P := P) (w := w) (K := K) (mg := mg) (base := base) (N := n_read_coat) (q := "read_coat") (sc := defScope s_read_coat) (f := He.ga K "read_coat") (cdv := cdv) (A := A) (outer := outer) (s := s0) (H := H) (E := E)
  have pX := paX (P := P) (w := w) (K := K) (mg := mg) (base := base) (N := n_read_coat) (q := "read_coat") (sc := defScope s_read_coat) (f := He.ga K "read_coat") (cdv := cdv) (A := A) (outer := outer) (s := s0) (H := H) (E := E)
  have po := poX (CX := L2.CX P w) (P := P) (w := w) (K := K) (mg := mg) (base := base) (N := n_read_coat) (q := "read_coat") (sc := defScope s_read_coat) (f := He.ga K "read_coat") (cdv := cdv) (A := A) (outer := outer) (s := s0) (H := H) (E := E)
  have h_read_byte : Room (3) _ := hr.mono (by omega)
  have h_read_marked : Room (9) _ := hr.mono (by omega)
  have h_Coat : Room (2) _ := hr.mono (by omega)
  have h_read_coat : Room (15+d) _ := hr.mono (by omega)
  refine ⟨_, (pss_cons (ps_set (i := 2) nd rfl (Or.inl rfl) (pe_cal u_read_byte (h_read_byte) pX (pa_cons (pv 0) (pa_cons (pe_gi T.i_MARKED) (pa_cons (pe_ifExp (pt_cmpR op_lt (pv 1) (pe_gi T.i_MOST_DEEP) (nomark _)) pe_int (pe_gi T.i_MARKED)) pa_nil)))))
      (pss_cons (ps_if (pt_cmpR op_eq (pv 2) (pe_gi T.i_MARKED) (nomark _)) (pss_one (ps_ret (pe_cal u_read_marked (h_read_marked) pX (pa_cons (pv 0) pa_nil)))) pss_nil)
      (pss_cons (ps_set (i := 3) nd rfl (Or.inl rfl) (pe_mak m_Coat (h_Coat) (pa_cons (pv 2) pa_nil)))
      (Evl.pss_cut (ps_set (i := 4) nd rfl (Or.inl rfl) (pe_ifExp (pt_cmpR op_eq (pv 2) (pe_gi T.i_QUARTERLY) (nomark _)) (pe_cal u_read_byte (h_read_byte) pX (pa_cons (pv 0) (pa_cons pe_int (pa_cons pe_int pa_nil)))) pe_int))
      (pss_cons (ps_for po rfl (pi_range1 rfl T.f_range (pa_cons (pv 4) pa_nil)) (pg_name (i := 5) nd rfl (Or.inl rfl))
      (pss_one (ps_expr (pe_bm PySem.F.plainAttrs_list PySem.F.slot_list_append PySem.F.type_list_append mt_append (pe_fld (pv 3) rfl) (pa_cons (pe_cal u_read_coat (h_read_coat) pX (pa_cons (pv 0) (pa_cons (pe_op op_add (pv 1) pe_int) pa_nil))) pa_nil)))))
      (pss_one (ps_ret (pv 3)))))))), ?_⟩
  try dsimp only [cxOf]
  clear h_read_coat h_Coat h_read_marked h_read_byte po pX tk nd
  obtain ⟨_, s, dx, cc, bs, k, rfl, _, S, R⟩ := h
  walk_at "rd"
  cases d with
  | zero =>
    refine iteB (fun c => absurd (of_decide_eq_true c) (by omega)) fun _ => ?_
    refine ⟨(0, 0), s, dx, cc, bs, k, rfl, trivial, S, ⟨fun e he d H1 b1 hd => R.err e (by show coatFrom 1 k _ = _; rw [coatFrom_s]; simp [coatStep, he]) d H1 b1 hd, fun n p he v H1 b1 S1 is => ?_⟩⟩
    obtain rfl : v = .int (n : Int) := is
    obtain ⟨_, _, hn, _, _⟩ := num_is he
    obtain rfl : n = 0 := by
      dsimp only at hn
      omega
    walk_at "rd"
    refine ⟨(), s, dx, cc, bs, p, rfl, trivial, S1, ⟨fun e he2 d H2 b2 hd => R.err e (by show coatFrom 1 k _ = _; rw [coatFrom_s]; simp [coatStep, he, he2]) d H2 (b1.trans b2) hd, fun m p2 he2 v H2 b2 S2 is => ?_⟩⟩
    refine R.ok (.one m) p2 (by show coatFrom 1 k _ = _; rw [coatFrom_s]; simp [coatStep, he, he2]) v H2 (b1.trans b2) S2 ?_
    unfold IsCoat
    exact IsMarked.up (dn_mono (b1.none S1.ob) fun _ _ _ h => h) is
  | succ d =>
    refine iteB (fun _ => ?_) fun c => absurd (of_decide_eq_false c) (by omega)
    refine ⟨(0, 3), s, dx, cc, bs, k, rfl, trivial, S, ⟨fun e he d' H1 b1 hd => R.err e (by show coatFrom (d + 1 + 1) k _ = _; rw [coatFrom_s]; simp [coatStep, he]) d' H1 b1 hd, fun n p he v H1 b1 S1 is => ?_⟩⟩
    obtain rfl : v = .int (n : Int) := is
    obtain ⟨_, _, hn, _, _⟩ := num_is he
    dsimp only at hn
    walk_at "rd"
    refine iteB (fun c => ?_) fun c => ?_
    · have c' : n = 0 := by
        have z := of_decide_eq_true c
        injection z with z
        omega
      subst c'
      walk_at "rd"
      refine ⟨(), s, dx, cc, bs, p, rfl, trivial, S1, ⟨fun e he2 d' H2 b2 hd => R.err e (by show coatFrom (d + 1 + 1) k _ = _; rw [coatFrom_s]; simp [coatStep, he, he2]) d' H2 (b1.trans b2) hd, fun m p2 he2 v H2 b2 S2 is => ?_⟩⟩
      refine R.ok (.one m) p2 (by show coatFrom (d + 1 + 1) k _ = _; rw [coatFrom_s]; simp [coatStep, he, he2]) v H2 (b1.trans b2) S2 ?_
      unfold IsCoat
      exact IsMarked.up (dn_mono (b1.none S1.ob) fun _ _ _ h => h) is
    · have c' : ¬ n = 0 := fun z => by
        rw [z] at c
        simp at c
      walk_at "rd"
      refine mk_Coat (n := n) fun x dxc ml cl H2 nx nm nc mc sa hx hm hc => ?_
      have heR : numAt 0 3 ANY k (bs.drop k) = .ok (n, p, bs.drop p) := he
      have n1 := b1.none S1.ob
      have xs : x ≠ s := fun z => by rw [z, S1.ob] at nx; cases nx
      have cs : cl ≠ s := fun z => by rw [z, S1.ob] at nc; cases nc
      have ms' : ml ≠ s := fun z => by rw [z, S1.ob] at nm; cases nm
      have xc : x ≠ cl := ne_of hx hc (by intro z; cases z)
      have S2 := S1.bt (.same sa) (sa _ _ S1.ob) S1.le
      have B2 : Bt s H H2 := b1.trans (.same sa)
      walk_at "rd"
      refine ⟨fun σ H3 => ∃ (m q : Nat), σ = [some (.ref s), some (.int (4 - ((d + 1 : Nat) : Int))), some (.int (n : Int)), some (.ref x), some (.int (m : Int)), none] ∧ Bt s H2 H3 ∧ Src K (He.ga K "Bytes") H3 s dx cc bs q ∧ m ≤ 9 ∧ (n ≠ 1 → m = 2) ∧
        (∀ e, several (coatFrom (d + 1)) m q (bs.drop q) = .error e → coatFrom (d + 1 + 1) k (bs.drop k) = .error e) ∧
        (∀ l p3, several (coatFrom (d + 1)) m q (bs.drop q) = .ok (l, p3, bs.drop p3) → l.length = m → coatFrom (d + 1 + 1) k (bs.drop k) = .ok (mkCoat n l, p3, bs.drop p3)), ?_, ?_⟩
      · walk_at "rd"
        refine iteB (fun c1 => ?_) fun c1 => ?_
        · have c1' : n = 1 := by
            have z := of_decide_eq_true c1
            injection z with z
            omega
          subst c1'
          walk_at "rd"
          refine ⟨(2, 9), s, dx, cc, bs, p, rfl, trivial, S2, ⟨fun e he3 d' H3 b3 hd => R.err e ?_ d' H3 (B2.trans b3) hd, fun m p2 he3 v H3 b3 S3 is => ?_⟩⟩
          · show coatFrom (d + 1 + 1) k _ = _
            rw [coatFrom_s]
            simp only [coatStep]
            rw [if_neg (by omega : ¬ d + 1 = 0), heR]
            simp only
            rw [if_neg (by omega), if_pos trivial]
            rw [show numAt 2 QUARTERS ANY p (bs.drop p) = .error e from he3]
          · obtain rfl : v = .int (m : Int) := is
            obtain ⟨_, _, hm9, _, _⟩ := num_is he3
            have he3' : numAt 2 QUARTERS ANY p (bs.drop p) = .ok (m, p2, bs.drop p2) := he3
            refine ⟨m, p2, rfl, b3, S3, hm9, fun z => absurd rfl z, fun e h => ?_, fun l p3 h _ => ?_⟩
            · rw [coatFrom_s]
              simp only [coatStep]
              rw [if_neg (by omega : ¬ d + 1 = 0), heR]
              simp only
              rw [if_neg (by omega), if_pos trivial, he3']
              simp only
              rw [h]
            · rw [coatFrom_s]
              simp only [coatStep]
              rw [if_neg (by omega : ¬ d + 1 = 0), heR]
              simp only
              rw [if_neg (by omega), if_pos trivial, he3']
              simp only
              rw [h, mkCoat_1]
        · have c1' : ¬ n = 1 := fun z => by
            rw [z] at c1
            simp at c1
          refine ⟨2, p, rfl, .refl, S2, by omega, fun _ => rfl, fun e h => ?_, fun l p3 h hl => ?_⟩
          · rw [coatFrom_s]
            simp only [coatStep]
            rw [if_neg (by omega : ¬ d + 1 = 0), heR]
            simp only
            rw [if_neg c', if_neg c1']
            rw [several_two] at h
            cases h1 : coatFrom (d + 1) p (bs.drop p) with
            | error e1 =>
              rw [h1] at h
              simp only at h ⊢
              injection h with h
              rw [h]
            | ok r1 =>
              rw [h1] at h
              simp only at h ⊢
              cases h2 : coatFrom (d + 1) r1.2.1 r1.2.2 with
              | error e2 =>
                rw [h2] at h
                simp only at h ⊢
                injection h with h
                rw [h]
              | ok r2 =>
                rw [h2] at h
                cases h
          · rw [coatFrom_s]
            simp only [coatStep]
            rw [if_neg (by omega : ¬ d + 1 = 0), heR]
            simp only
            rw [if_neg c', if_neg c1']
            rw [several_two] at h
            cases h1 : coatFrom (d + 1) p (bs.drop p) with
            | error e1 =>
              rw [h1] at h
              cases h
            | ok r1 =>
              rw [h1] at h
              simp only at h ⊢
              cases h2 : coatFrom (d + 1) r1.2.1 r1.2.2 with
              | error e2 =>
                rw [h2] at h
                cases h
              | ok r2 =>
                rw [h2] at h
                simp only at h ⊢
                injection h with h
                obtain ⟨h3, h4⟩ := Prod.mk.inj h
                rw [← h3, h4]
                have hn23 : n = 2 ∨ n = 3 := by omega
                rcases hn23 with rfl | rfl
                · rw [if_pos rfl, mkCoat_2]
                · rw [if_neg (by decide), mkCoat_3]
      · rintro σ H3 ⟨m, p2, rfl, b3, S3, hm9, hm2, e1, e2⟩
        walk_at "rd"
        refine ⟨by omega, by omega, ?_⟩
        have G2 : ∀ m' ∈ [s, cl], H2 m' ≠ none := fun m' hm' => by
          rcases List.mem_cons.mp hm' with q | hm'
          · rw [q, S2.ob]; simp
          rcases List.mem_cons.mp hm' with q | hm'
          · rw [q, hc]; simp
          · cases hm'
        have drop : ∀ {H'}, BtM [s, cl] H2 H' → Bt s H H' := fun {H'} e => BtM.drop b1 (fun m' hm' => by
          rcases List.mem_cons.mp hm' with q | hm'
          · exact .inl q
          rcases List.mem_cons.mp hm' with q | hm'
          · exact .inr (q ▸ nc)
          · cases hm') ((BtM.same sa).trans e)
        refine for_range (lo := 0) (n := (m : Int).toNat) (fun i σ H' => ∃ (v5 : Option V) (vs : List V) (ls : List Coat) (q : Nat), σ = [some (.ref s), some (.int (4 - ((d + 1 : Nat) : Int))), some (.int (n : Int)), some (.ref x), some (.int (m : Int)), v5] ∧ BtM [s, cl] H2 H' ∧ Src K (He.ga K "Bytes") H' s dx cc bs q ∧
          H' cl = some (.lst vs) ∧ IsCoats K (Dn H2 H') vs ls ∧ ls.length = i ∧ goesOn (several (coatFrom (d + 1)) m p2 (bs.drop p2)) (several (coatFrom (d + 1)) (m - i) q (bs.drop q)) ls) ?_ ?_ ?_
        · exact ⟨none, [], [], p2, rfl, .of b3 (by simp), S3, b3 _ _ cs hc, (by unfold IsCoats; trivial), rfl, .start⟩
        · rintro i σ H4 hi ⟨v5, vs, ls, q, rfl, F4, S4, hc4, P4, len4, go4⟩
          have hi' : i < m := by omega
          have en : m - i = (m - (i + 1)) + 1 := by omega
          rw [en] at go4
          have hx4 : H4 x = some (.ins (He.ga K "Coat") dxc (coaF n .non .non ml cl)) := F4 _ _ (by simp [xs, xc]) hx
          walk_at "rd"
          refine ⟨.inl ⟨rfl, _, SqL.of hc4⟩, ?_⟩
          walk_at "rd"
          refine ⟨(), s, dx, cc, bs, q, (by simp; omega), trivial, S4, ⟨fun e he5 d' H5 b5 hd => R.err e (e1 e (go4.err (by simp only [several]; rw [show coatFrom (d + 1) q (bs.drop q) = .error e from he5]))) d' H5 ((drop F4).trans b5) hd, fun y p5 he5 v H5 b5 S5 is => ?_⟩⟩
          have hc5 := b5 _ _ cs hc4
          have he5' : coatFrom (d + 1) q (bs.drop q) = .ok (y, p5, bs.drop p5) := he5
          refine ⟨cl, vs, _, rfl, rfl, hc5, ?_, ?_⟩
          · have z := P4.len
            have z2 : vs.length ≤ 9 := by omega
            exact Nat.lt_of_le_of_lt z2 (by decide)
          · have F6 : BtM [s, cl] H4 (upd H5 cl (.lst (vs ++ [v]))) := (BtM.of b5 (by simp)).put (by simp)
            refine ⟨_, vs ++ [v], ls ++ [y], p5, rfl, F4.trans F6, S.bt (drop (F4.trans F6)) ((upd_ne (Ne.symm cs)).trans S5.ob) S5.le, upd_same, ?_, by simp [len4], go4.turn (fun e h => by simp only [several, he5', h]) fun r h => by simp only [several, he5', h]⟩
            refine IsCoats.snoc (IsCoats.up (F6.dn G2) P4) (IsCoat.up (dn_mono (F4.none fun m' hm' => ?_) fun a o n h => ?_) is)
            · rcases List.mem_cons.mp hm' with q | hm'
              · rw [q, S4.ob]; simp
              rcases List.mem_cons.mp hm' with q | hm'
              · rw [q, hc4]; simp
              · cases hm'
            · rw [upd_ne (fun z => by rw [z, hc4] at n; cases n)]
              exact h
        · rintro σ H4 ⟨v5, vs, ls, q, rfl, F4, S4, hc4, P4, len4, go4⟩
          have e0 : m - (m : Int).toNat = 0 := by omega
          rw [e0] at go4
          have z := go4.ok (p := q) (b := bs.drop q) rfl
          have lm : ls.length = m := by omega
          refine ⟨_, rfl, ?_⟩
          have U : Same (Dn H2 H4) (Dn H H4) := dn_mono (fun a h => n1 a (sa.free h)) fun _ _ _ h => h
          have hx4 : H4 x = some (.ins (He.ga K "Coat") dxc (coaF n .non .non ml cl)) := F4 _ _ (by simp [xs, xc]) hx
          have hm4 : H4 ml = some (.lst []) := F4 _ _ (by simp [ms', mc]) hm
          refine R.ok (mkCoat n ls) q (e2 ls q z lm) (.ref x) H4 (drop F4) S4 (isCoat_mk ?_ (dn_of (n1 x nx) hx4) (dn_of (n1 ml nm) hm4) (dn_of (n1 cl nc) hc4) (IsCoats.up U P4))
          by_cases hn1 : n = 1
          · exact .inl hn1
          · exact .inr ⟨by omega, by rw [lm]; exact hm2 hn1⟩
end
end Hc

namespace Hc
open PySem PySem.Spec PyProof.Rows L2
open Sh ShMarsh
set_option hygiene false
local macro_rules | `(tactic| walk_at "hp") => `(tactic| first | assumption | exact Src.ob (by assumption) | exact upd_same)
local macro_rules | `(tactic| walk_at "sq") => `(tactic| first | assumption | exact Src.sq (by assumption) | exact SqL.of (by assumption) | exact SqL.of upd_same | exact SqT.of (by assumption) | exact SqT.of upd_same)
local macro_rules | `(tactic| walk_at "cl") => `(tactic| with_reducible first | exact T.c_Bytes | exact T.c_Coat | exact T.c_Arms | exact T.c_Layer)
local macro_rules | `(tactic| walk_at "na") => `(tactic| with_reducible first | exact T.n_Bytes_some | exact T.n_Bytes_at | exact T.n_Coat_kind | exact T.n_Coat_arms | exact T.n_Coat_canton | exact T.n_Coat_marks | exact T.n_Coat_coats | exact T.n_Arms_field | exact T.n_Arms_layers | exact T.n_Layer_kind | exact T.n_Layer_numbers | exact T.n_Layer_fill)
local macro_rules | `(tactic| walk_at "ai") => `(tactic| first | assumption | exact atI_nat (by assumption) | rfl)
local macro_rules | `(tactic| walk_at "rd1") => `(tactic| first
  | refine ⟨_, rfl, ?_⟩
  | refine ⟨rfl, ?_⟩
  | refine ⟨_, _, rfl, rfl, ?_⟩
  | refine ⟨_, _, _, _, _, rfl, (by walk_at "hp"), (by walk_at "cl"), (by walk_at "na"), (by rfl), ?_⟩
  | refine ⟨_, _, _, _, rfl, (by walk_at "hp"), (by walk_at "cl"), (by walk_at "na"), Nat.le_of_ble_eq_true rfl, ?_⟩
  | refine ⟨_, _, _, _, rfl, rfl, (by walk_at "sq"), (by walk_at "ai"), ?_⟩
  | refine ⟨_, _, rfl, (by first | exact Or.inl (by walk_at "sq") | exact Or.inr (by walk_at "sq")), ?_⟩
  | refine ⟨(by walk_at "ar"), ?_⟩)
local macro_rules | `(tactic| walk_at "ar") => `(tactic| first | exact (show CDiv _ _ from ⟨by decide, by decide⟩) | exact (show (0 : Int) < _ from by decide) | exact (show CMul _ _ from .inl ⟨by omega, by omega⟩) | exact (show CMul _ _ from .inr ⟨by omega, by omega⟩))
local macro_rules | `(tactic| walk_at "rd") => `(tactic| repeat walk_at "rd1")
local macro_rules | `(tactic| walk_at "fa") => `(tactic| first | exact ⟨_, rfl, (by omega), rfl⟩ | exact ⟨_, _, rfl, (by omega), rfl⟩ | exact ⟨_, _, _, rfl, (by omega), rfl⟩ | exact ⟨_, _, _, _, rfl, (by omega), rfl⟩ | exact ⟨_, _, _, _, _, rfl, (by omega), rfl⟩)
local macro_rules | `(tactic| walk_at "vr") => `(tactic| first
  | exact v_var (by rfl)
  | exact v_c
  | (apply v_i0 <;> walk_at "vr")
  | (apply v_i <;> first | walk_at "ar" | walk_at "vr")
  | (apply v_neg <;> walk_at "vr")
  | (apply v_eq <;> walk_at "vr")
  | (apply v_eqB <;> walk_at "vr")
  | (apply v_ne <;> walk_at "vr")
  | (apply v_neB <;> walk_at "vr")
  | (apply v_chain (g := fun _ _ => _) (g' := fun _ _ => _) <;> walk_at "vr")
  | (apply v_and <;> walk_at "vr")
  | (apply v_or <;> walk_at "vr")
  | (apply v_not <;> walk_at "vr")
  | (apply v_ifI <;> walk_at "vr")
  | (apply v_ifB <;> walk_at "vr")
  | (apply v_call <;> first | walk_at "fa" | walk_at "vr")
  | (apply v_abs <;> walk_at "vr")
  | (apply v_min <;> walk_at "vr")
  | exact va_nil
  | (apply va_cons <;> walk_at "vr")
  | (apply a_test <;> walk_at "vr")
  | (apply a_B <;> walk_at "vr")
  | (apply a_and <;> walk_at "vr")
  | (apply a_or <;> walk_at "vr")
  | (apply a_not <;> walk_at "vr"))
local macro_rules | `(tactic| walk_at "rs") => `(tactic| first
  | (apply r_ret; walk_at "vr")
  | (apply r_set; walk_at "vr"; walk_at "rs")
  | (apply r_ifI; walk_at "vr"; intro _; walk_at "rs"; intro _; walk_at "rs")
  | (apply r_ifB; walk_at "vr"; intro _; walk_at "rs"; intro _; walk_at "rs"))

section
variable {P : Program} {w : World} {K : PySem.W.Frag} {mg : Str → Option Value} {base : Heap}
theorem all_read_coat (T : Txt w K mg) (u_read_byte : Cal P w K mg base (L2.CX P w) 3 "read_byte" p_read_byte (spByte K)) (u_read_marked : Cal P w K mg base (L2.CX P w) 9 "read_marked" p_read_marked (spMarked K)) (m_Coat : Mak P w K mg base 1 "Coat" p_Coat_init (spI_Coat K)) : ∀ d : Nat, Cal P w K mg base (L2.CX P w) (15 + d) "read_coat" p_read_coat (spCoat K d)
  | 0 => by
    obtain ⟨⟨fd, F, b⟩, g⟩ := T.d_read_coat
    exact ⟨⟨fd, ⟨fun _ _ _ _ h => h.elim, fun _ _ _ _ _ _ _ _ _ _ _ _ _ h => h.elim⟩, b⟩, g, F.kp⟩
  | d + 1 => step_read_coat T u_read_byte u_read_marked m_Coat d (all_read_coat T u_read_byte u_read_marked m_Coat d)
/-- a coat of these bytes, or the place of the first fault -/
def spCoatOf (K : PySem.W.Frag) : Sp := fun vs H Q E => ∃ (c : Addr) (bs : B), vs = [.ref c] ∧ SqL K H c (bs.map bv) ∧ bs.length ≤ 5000 ∧
  (∀ e, readCoat bs = .error e → ∀ (d : Addr) H', Same H H' → H' d = some (.xd [("place", .int (e : Nat))]) → E (.ref (He.ga K "NoCoat")) (some d) H') ∧
  (∀ co, readCoat bs = .ok co → ∀ v H', Same H H' → IsCoat K H' v co → Q v H')
theorem ok_coat_of_bytes (T : Txt w K mg) (m_Bytes : Mak P w K mg base 1 "Bytes" p_Bytes_init (spI_Bytes K "Bytes")) (u_read_coat : Cal P w K mg base (L2.CX P w) 19 "read_coat" p_read_coat (spCoat K 4)) (q_NoCoat : Exq P w K mg base 1 "NoCoat" p_NoCoat_init (spErr1 K "NoCoat")) : Cal P w K mg base (L2.CX P w) 20 "coat_of_bytes" p_coat_of_bytes (spCoatOf K) := by
  refine T.d_coat_of_bytes.cal sc_coat_of_bytes (fun vs H Q E h => by obtain ⟨_, _, rfl, _⟩ := h; rfl) ?_
  intro cdv A outer s0 H vs Q E hr h
  have nd := sc_coat_of_bytes.nd
  have tk := tkX (P := P) (w := w) (K := K) (mg := mg) (base := base) (N := n_coat_of_bytes) (q := "coat_of_bytes") (sc := defScope s_coat_of_bytes) (f := He.ga K "coat_of_bytes") (cdv := cdv) (A := A) (outer := outer) (s := s0) (H := H) (E := E)
  have pX := paX (P := P) (w := w) (K := K) (mg := mg) (base := base) (N := n_coat_of_bytes) (q := "coat_of_bytes") (sc := defScope s_coat_of_bytes) (f := He.ga K "coat_of_bytes") (cdv := cdv) (A := A) (outer := outer) (s := s0) (H := H) (E := E)
  have po := poX (CX := L2.CX P w) (P := P) (w := w) (K := K) (mg := mg) (base := base) (N := n_coat_of_bytes) (q := "coat_of_bytes") (sc := defScope s_coat_of_bytes) (f := He.ga K "coat_of_bytes") (cdv := cdv) (A := A) (outer := outer) (s := s0) (H := H) (E := E)
  have h_Bytes : Room (2) _ := hr.mono (by omega)
  have h_read_coat : Room (19) _ := hr.mono (by omega)
  have h_NoCoat : Room (2) _ := hr.mono (by omega)
  refine ⟨_, (pss_cons (ps_set (i := 1) nd rfl (Or.inl rfl) (pe_mak m_Bytes (h_Bytes) (pa_cons (pv 0) pa_nil)))
      (pss_cons (ps_set (i := 2) nd rfl (Or.inl rfl) (pe_cal u_read_coat (h_read_coat) pX (pa_cons (pv 1) (pa_cons pe_int pa_nil))))
      (pss_cons (ps_if (pt_cmpR op_lt (pe_fld (pv 1) rfl) (pe_callB call_len_seq (by rfl) T.f_len PySem.boot_len (pa_cons (pv 0) pa_nil)) (nomark _)) (pss_one (ps_raise rfl tk (pmk_exq q_NoCoat (h_NoCoat) (by exact (pa_cons (pe_fld (pv 1) rfl) pa_nil))))) pss_nil)
      (pss_one (ps_ret (pv 2)))))), ?_⟩
  try dsimp only [cxOf]
  clear h_NoCoat h_read_coat h_Bytes po pX tk nd
  obtain ⟨c, bs, rfl, hS, hb, kE, kQ⟩ := h
  walk_at "rd"
  refine mk_Bytes fun x dx H1 nx sa hx => ?_
  have S1 : Src K (He.ga K "Bytes") H1 x dx c bs 0 := ⟨hx, sa.seq hS, Nat.zero_le _, hb⟩
  have up : ∀ {H2}, Bt x H1 H2 → Same H H2 := fun {H2} e b o h => e b o (ne_of_none h nx) (sa b o h)
  walk_at "rd"
  refine ⟨(), x, dx, c, bs, 0, rfl, trivial, S1, ⟨fun e he d H2 b2 hd => kE e (by unfold readCoat; rw [show coatFrom DEEP 0 bs = .error e from he]) d H2 (up b2) hd, fun co p he v H2 b2 S2 is => ?_⟩⟩
  have he' : coatFrom DEEP 0 bs = .ok (co, p, bs.drop p) := he
  have sq2 := (up b2).seq hS
  walk_at "rd"
  rw [List.length_map]
  refine iteB (fun c1 => ?_) fun c1 => ?_
  · have c1' : p < bs.length := by
      have z := of_decide_eq_true c1
      omega
    walk_at "rd"
    refine raise1 fun d H3 sa3 _ hd => kE p ?_ d H3 (fun b o h => sa3 b o (up b2 b o h)) hd
    unfold readCoat
    rw [he']
    simp only
    rw [if_neg]
    intro z
    have := congrArg List.length z
    simp at this
    omega
  · have c1' : bs.length ≤ p := by
      have z := of_decide_eq_false c1
      omega
    walk_at "rd"
    refine kQ co ?_ v H2 (up b2) (IsCoat.up dn_same is)
    unfold readCoat
    rw [he']
    simp only
    rw [if_pos (List.drop_eq_nil_of_le c1')]
end
end Hc

namespace Hc
open PySem PySem.Spec PyProof.Rows L2
open Sh ShMarsh ShBlazon
set_option hygiene false
local macro_rules | `(tactic| walk_at "hp") => `(tactic| first | assumption | exact Src.ob (by assumption) | exact upd_same)
local macro_rules | `(tactic| walk_at "sq") => `(tactic| first | assumption | exact Src.sq (by assumption) | exact SqL.of (by assumption) | exact SqL.of upd_same | exact SqT.of (by assumption) | exact SqT.of upd_same)
local macro_rules | `(tactic| walk_at "cl") => `(tactic| with_reducible first | exact T.c_Bytes | exact T.c_Coat | exact T.c_Arms | exact T.c_Layer)
local macro_rules | `(tactic| walk_at "na") => `(tactic| with_reducible first | exact T.n_Bytes_some | exact T.n_Bytes_at | exact T.n_Coat_kind | exact T.n_Coat_arms | exact T.n_Coat_canton | exact T.n_Coat_marks | exact T.n_Coat_coats | exact T.n_Arms_field | exact T.n_Arms_layers | exact T.n_Layer_kind | exact T.n_Layer_numbers | exact T.n_Layer_fill)
local macro_rules | `(tactic| walk_at "ai") => `(tactic| first | assumption | exact atI_nat (by assumption) | rfl)
local macro_rules | `(tactic| walk_at "rd1") => `(tactic| first
  | refine ⟨_, rfl, ?_⟩
  | refine ⟨rfl, ?_⟩
  | refine ⟨_, _, rfl, rfl, ?_⟩
  | refine ⟨_, _, _, _, _, rfl, (by walk_at "hp"), (by walk_at "cl"), (by walk_at "na"), (by rfl), ?_⟩
  | refine ⟨_, _, _, _, rfl, (by walk_at "hp"), (by walk_at "cl"), (by walk_at "na"), Nat.le_of_ble_eq_true rfl, ?_⟩
  | refine ⟨_, _, _, _, rfl, rfl, (by walk_at "sq"), (by walk_at "ai"), ?_⟩
  | refine ⟨_, _, rfl, (by first | exact Or.inl (by walk_at "sq") | exact Or.inr (by walk_at "sq")), ?_⟩
  | refine ⟨(by walk_at "ar"), ?_⟩)
local macro_rules | `(tactic| walk_at "ar") => `(tactic| first | exact (show CDiv _ _ from ⟨by decide, by decide⟩) | exact (show (0 : Int) < _ from by decide) | exact (show CMul _ _ from .inl ⟨by omega, by omega⟩) | exact (show CMul _ _ from .inr ⟨by omega, by omega⟩))
local macro_rules | `(tactic| walk_at "rd") => `(tactic| repeat walk_at "rd1")
local macro_rules | `(tactic| walk_at "fa") => `(tactic| first | exact ⟨_, rfl, (by omega), rfl⟩ | exact ⟨_, _, rfl, (by omega), rfl⟩ | exact ⟨_, _, _, rfl, (by omega), rfl⟩ | exact ⟨_, _, _, _, rfl, (by omega), rfl⟩ | exact ⟨_, _, _, _, _, rfl, (by omega), rfl⟩)
local macro_rules | `(tactic| walk_at "vr") => `(tactic| first
  | exact v_var (by rfl)
  | exact v_c
  | (apply v_i0 <;> walk_at "vr")
  | (apply v_i <;> first | walk_at "ar" | walk_at "vr")
  | (apply v_neg <;> walk_at "vr")
  | (apply v_eq <;> walk_at "vr")
  | (apply v_eqB <;> walk_at "vr")
  | (apply v_ne <;> walk_at "vr")
  | (apply v_neB <;> walk_at "vr")
  | (apply v_chain (g := fun _ _ => _) (g' := fun _ _ => _) <;> walk_at "vr")
  | (apply v_and <;> walk_at "vr")
  | (apply v_or <;> walk_at "vr")
  | (apply v_not <;> walk_at "vr")
  | (apply v_ifI <;> walk_at "vr")
  | (apply v_ifB <;> walk_at "vr")
  | (apply v_call <;> first | walk_at "fa" | walk_at "vr")
  | (apply v_abs <;> walk_at "vr")
  | (apply v_min <;> walk_at "vr")
  | exact va_nil
  | (apply va_cons <;> walk_at "vr")
  | (apply a_test <;> walk_at "vr")
  | (apply a_B <;> walk_at "vr")
  | (apply a_and <;> walk_at "vr")
  | (apply a_or <;> walk_at "vr")
  | (apply a_not <;> walk_at "vr"))
local macro_rules | `(tactic| walk_at "rs") => `(tactic| first
  | (apply r_ret; walk_at "vr")
  | (apply r_set; walk_at "vr"; walk_at "rs")
  | (apply r_ifI; walk_at "vr"; intro _; walk_at "rs"; intro _; walk_at "rs")
  | (apply r_ifB; walk_at "vr"; intro _; walk_at "rs"; intro _; walk_at "rs"))

section
variable {P : Program} {w : World} {K : PySem.W.Frag} {mg : Str → Option Value} {base : Heap}
def WAYS7 : List (List UInt8) := [ascii "pale", ascii "fess", ascii "bend", ascii "bend sinister", ascii "chevron", ascii "saltire"]
def VARS7 : List (List UInt8) := [ascii "barry", ascii "paly", ascii "bendy", ascii "bendy sinister", ascii "chevronny", ascii "chequy", ascii "lozengy"]
def ORDS13 : List (List UInt8) := [ascii "chief", ascii "base", ascii "pale", ascii "fess", ascii "bend", ascii "bend sinister", ascii "chevron", ascii "cross", ascii "saltire", ascii "pile", ascii "bordure", ascii "canton", ascii "quarter"]
def MANS7 : List (List UInt8) := [ascii "rows", ascii "fess", ascii "pale", ascii "bend", ascii "bend sinister", ascii "chief", ascii "base"]
def CNTS10 : List (List UInt8) := ascii "one" :: COUNTS
theorem t_tinct : w_TINCTURES = TINCTWORDS.map tv := by decide +kernel
theorem t_lines : w_LINES = (ascii "straight" :: LINEWORDS.drop 1).map tv := by decide +kernel
theorem t_ways : w_WAYS = WAYS7.map tv := by decide +kernel
theorem t_vars : w_VARIETIES = VARS7.map tv := by decide +kernel
theorem t_ords : w_ORDINARIES = ORDS13.map tv := by decide +kernel
theorem t_charges : w_CHARGES = CHARGEWORDS.map tv := by decide +kernel
theorem t_counts : w_COUNTS = CNTS10.map tv := by decide +kernel
theorem t_sizes : w_SIZES = [ascii "none", ascii "small", ascii "lesser", ascii "none", ascii "great"].map tv := by decide +kernel
theorem t_manners : w_MANNERS = MANS7.map tv := by decide +kernel
theorem map_at {l : List (List UInt8)} {i : Nat} (h : i < l.length) : (l.map tv)[i]? = some (tv (l.getD i [])) := by
  rw [List.getElem?_map, List.getElem?_eq_getElem h]
  simp [h]
local macro_rules | `(tactic| walk_at "sq") => `(tactic| with_reducible first | exact T.t_TINCTURES _ | exact T.t_LINES _ | exact T.t_WAYS _ | exact T.t_VARIETIES _ | exact T.t_ORDINARIES _ | exact T.t_CHARGES _ | exact T.t_COUNTS _ | exact T.t_SIZES _ | exact T.t_MANNERS _)
local macro_rules | `(tactic| walk_at "ai") => `(tactic| first
  | (rw [t_tinct]; exact atI_nat (map_at (by show _ < 9; omega)))
  | (rw [t_ways]; exact atI_nat (map_at (by show _ < 6; omega)))
  | (rw [t_vars]; exact atI_nat (map_at (by show _ < 7; omega)))
  | (rw [t_ords]; exact atI_nat (map_at (by show _ < 13; omega)))
  | (rw [t_charges]; exact atI_nat (map_at (by show _ < 16; omega)))
  | (rw [t_sizes]; exact atI_nat (map_at (by show _ < 5; omega)))
  | (rw [t_manners]; exact atI_nat (map_at (by show _ < 7; omega))))
theorem glue_ways {d : Nat} (h : d ≤ 5) : glue [ascii "per", WAYS7.getD d []] = glue (ascii "per" :: withSin WAYWORDS 3 d) := by
  have z : ∀ d : Fin 6, glue [ascii "per", WAYS7.getD d.val []] = glue (ascii "per" :: withSin WAYWORDS 3 d.val) := by decide +kernel
  exact z ⟨d, by omega⟩
theorem glue_vars {v : Nat} (h : v ≤ 6) : glue [VARS7.getD v []] = glue (withSin VARYWORDS 3 v) := by
  have z : ∀ d : Fin 7, glue [VARS7.getD d.val []] = glue (withSin VARYWORDS 3 d.val) := by decide +kernel
  exact z ⟨v, by omega⟩
theorem glue_ords {v : Nat} (h : v ≤ 12) : glue [ORDS13.getD v []] = glue (withSin ORDWORDS 5 v) := by
  have z : ∀ d : Fin 13, glue [ORDS13.getD d.val []] = glue (withSin ORDWORDS 5 d.val) := by decide +kernel
  exact z ⟨v, by omega⟩
theorem glue_mans {v : Nat} (h : 1 ≤ v ∧ v ≤ 6) : glue [MANS7.getD v []] = glue (withSin MANNERWORDS 4 v) := by
  have z : ∀ d : Fin 7, 1 ≤ d.val → glue [MANS7.getD d.val []] = glue (withSin MANNERWORDS 4 d.val) := by decide +kernel
  exact z ⟨v, by omega⟩ h.1
/-- a new list of words -/
def spWords {ι : Type} (n : Nat) (args : ι → List V) (ok : Hp → ι → Prop) (f : ι → List (List UInt8)) : Sp := fun vs H Q _ => ∃ i, vs = args i ∧ ok H i ∧ ∀ D H' ts, Same H H' → H' D = some (.lst (ts.map tv)) → glue ts = glue (f i) → ts ≠ [] ∨ f i = [] → ts.length ≤ n → Q (.ref D) H'
abbrev spLine : Sp := spWords (ι := Nat) 9 (fun l => [.int (l : Int)]) (fun _ l => l ≤ 5) lineWords
theorem ok_line_words (T : Txt w K mg)  : Cal P w K mg base CX0 1 "line_words" p_line_words spLine := by
  refine T.d_line_words.cal sc_line_words (fun vs H Q E h => by obtain ⟨_, rfl, _⟩ := h; rfl) ?_
  intro cdv A outer s0 H vs Q E hr h
  have nd := sc_line_words.nd
  have po := poX (CX := CX0) (P := P) (w := w) (K := K) (mg := mg) (base := base) (N := n_line_words) (q := "line_words") (sc := defScope s_line_words) (f := He.ga K "line_words") (cdv := cdv) (A := A) (outer := outer) (s := s0) (H := H) (E := E)
  refine ⟨_, (pss_one (ps_ret (pe_ifExp (pt_cmpR op_eq (pv 0) pe_int (nomark _)) (pe_lst pa_nil) (pe_lst (pa_cons (pe_ix ix_tup (pe_gr T.g_LINES) (pv 0) (fun _ _ => rfl)) pa_nil))))), ?_⟩
  try dsimp only [cxOf]
  clear po nd
  obtain ⟨l, rfl, hl, k⟩ := h
  walk_at "rd"
  refine iteB (fun c => ?_) fun c => ?_
  · have c' : V.int (l : Int) = V.int 0 := of_decide_eq_true c
    injection c' with c'
    have e : l = 0 := by omega
    subst e
    exact ⟨by show 0 ≤ sizeLine; decide, fun D nD => k D _ [] (Hc.Same.new (Same.refl H) nD) upd_same rfl (.inr rfl) (by decide)⟩
  · have c' : l ≠ 0 := fun z => of_decide_eq_false c (by rw [z]; rfl)
    refine ⟨_, rfl, _, _, _, _, rfl, rfl, T.t_LINES _, (by rw [t_lines]; exact atI_nat (map_at (show l < 6 by omega))), ?_⟩
    have e : (ascii "straight" :: LINEWORDS.drop 1).getD l [] = LINEWORDS.getD l [] := by
      rcases (show l = 1 ∨ l = 2 ∨ l = 3 ∨ l = 4 ∨ l = 5 by omega) with rfl | rfl | rfl | rfl | rfl <;> rfl
    rw [e]
    refine ⟨by show 1 ≤ sizeLine; decide, fun D nD => k D _ [LINEWORDS.getD l []] (Hc.Same.new (Same.refl H) nD) upd_same ?_ (.inl (by simp)) (Nat.le_of_ble_eq_true rfl)⟩
    unfold lineWords
    rw [if_neg c']
abbrev spFieldW : Sp := spWords (ι := V × Field) 20 (fun i => [i.1]) (fun H i => IsField H i.1 i.2 ∧ WfField i.2) (fun i => fieldWords i.2)
/-- two lists of words joined to a third -/
theorem cat_two {H : Hp} {x y : Addr} {xs ys : List V} {Q : VK} (hx : H x = some (.lst xs)) (hy : H y = some (.lst ys)) (hl : xs.length + ys.length ≤ sizeLine) (k : ∀ p, H p = none → Q (.ref p) (upd H p (.lst (xs ++ ys)))) : rCat (.ref x) (.ref y) H Q :=
  ⟨x, y, xs, ys, rfl, rfl, hx, hy, hl, k⟩
theorem log3 (n : Nat) (h : n < 256) : ((n : Int).natAbs).log2 < 1920 := by
  have z : ∀ n : Fin 256, ((n.val : Int).natAbs).log2 < 1920 := by decide +kernel
  exact z ⟨n, h⟩
theorem cat3 {te tcall : TE} {σ : L2.St} {H : Hp} {Q : VK} {heads behind : List (List UInt8)} {l : Nat} {D1 : Addr}
    (hte : ∀ Q' : VK, (∀ D2 H2, Same H H2 → H2 D2 = some (.lst (heads.map tv)) → Q' (.ref D2) H2) → te σ H Q')
    (hline : ∀ (H' : Hp) (Q' : VK), Same H H' → (∀ D3 H3 ts, Same H' H3 → H3 D3 = some (.lst (ts.map tv)) → glue ts = glue (lineWords l) → ts.length ≤ 9 → Q' (.ref D3) H3) → tcall σ H' Q')
    (hv : σ[1]? = some (some (.ref D1))) (h1 : H D1 = some (.lst (behind.map tv))) (hh : heads.length ≤ 3) (hb : behind.length = 3)
    (k : ∀ p H' ts, Same H H' → H' p = some (.lst (ts.map tv)) → glue ts = glue heads ++ (glue (lineWords l) ++ glue behind) → ts ≠ [] → ts.length ≤ 15 → Q (.ref p) H') :
    tOp rCat (tOp rCat te tcall) (tVar 1) σ H Q := by
  refine hte _ fun D2 H2 s2 h2 => hline H2 _ s2 fun D3 H3 ts s3 h3 hg hl => ?_
  refine cat_two (s3 _ _ h2) h3 ?_ fun p np => ?_
  · simp only [List.length_map]
    exact Nat.le_trans (by omega : heads.length + ts.length ≤ 12) (by decide)
  refine ⟨_, hv, ?_⟩
  have s4 : Same H3 (upd H3 p (.lst (heads.map tv ++ ts.map tv))) := Hc.Same.new (Same.refl H3) np
  refine cat_two upd_same (s4 _ _ (s3 _ _ (s2 _ _ h1))) ?_ fun p2 np2 => ?_
  · simp only [List.length_map, List.length_append]
    exact Nat.le_trans (by omega : heads.length + ts.length + behind.length ≤ 15) (by decide)
  refine k p2 _ (heads ++ ts ++ behind) (fun b o z => (Hc.Same.new (Same.refl _) np2) _ _ (s4 _ _ (s3 _ _ (s2 _ _ z)))) ?_ ?_ ?_ ?_
  · rw [upd_same, List.map_append, List.map_append]
  · rw [glue_app, glue_app, hg, List.append_assoc]
  · intro z
    have := congrArg List.length z
    simp only [List.length_append, List.length_nil] at this
    omega
  · simp only [List.length_append]
    omega
theorem ok_field_words (T : Txt w K mg) (u_line_words : Cal P w K mg base CX0 1 "line_words" p_line_words spLine) : Cal P w K mg base CX0 2 "field_words" p_field_words spFieldW := by
  refine T.d_field_words.cal sc_field_words (fun vs H Q E h => by obtain ⟨_, rfl, _⟩ := h; rfl) ?_
  intro cdv A outer s0 H vs Q E hr h
  have nd := sc_field_words.nd
  have po := poX (CX := CX0) (P := P) (w := w) (K := K) (mg := mg) (base := base) (N := n_field_words) (q := "field_words") (sc := defScope s_field_words) (f := He.ga K "field_words") (cdv := cdv) (A := A) (outer := outer) (s := s0) (H := H) (E := E)
  have h_line_words : Room (1) _ := hr.mono (by omega)
  refine ⟨_, (pss_cons (ps_if (pt_cmpR op_eq (pe_ix ix_tup (pv 0) pe_int (fun _ _ => rfl)) (pe_gi T.i_PLAIN) (nomark _)) (pss_one (ps_ret (pe_lst (pa_cons (pe_ix ix_tup (pe_gr T.g_TINCTURES) (pe_ix ix_tup (pv 0) pe_int (fun _ _ => rfl)) (fun _ _ => rfl)) pa_nil)))) pss_nil)
      (pss_cons (ps_set (i := 1) nd rfl (Or.inl rfl) (pe_lst (pa_cons (pe_ix ix_tup (pe_gr T.g_TINCTURES) (pe_ix ix_tup (pv 0) (pe_un un_neg pe_int) (fun _ _ => rfl)) (fun _ _ => rfl)) (pa_cons pe_str (pa_cons (pe_ix ix_tup (pe_gr T.g_TINCTURES) (pe_ix ix_tup (pv 0) (pe_un un_neg pe_int) (fun _ _ => rfl)) (fun _ _ => rfl)) pa_nil)))))
      (pss_cons (ps_if (pt_cmpR op_eq (pe_ix ix_tup (pv 0) pe_int (fun _ _ => rfl)) (pe_gi T.i_VARIED) (nomark _)) (pss_one (ps_ret (pe_op op_cat (pe_op op_cat (pe_lst (pa_cons (pe_ix ix_tup (pe_gr T.g_VARIETIES) (pe_ix ix_tup (pv 0) pe_int (fun _ _ => rfl)) (fun _ _ => rfl)) (pa_cons pe_str (pa_cons (pe_callTy call_str_int (by rfl) T.f_str (by decide +kernel) (pa_cons (pe_ix ix_tup (pv 0) pe_int (fun _ _ => rfl)) pa_nil)) pa_nil)))) (pe_cal u_line_words (h_line_words) (p0X (E := E0)) (pa_cons (pe_ix ix_tup (pv 0) pe_int (fun _ _ => rfl)) pa_nil))) (pv 1)))) pss_nil)
      (pss_cons (ps_if (pt_cmpR op_lt (pe_ix ix_tup (pv 0) pe_int (fun _ _ => rfl)) (pe_callB call_len_seq (by rfl) T.f_len PySem.boot_len (pa_cons (pe_gr T.g_WAYS) pa_nil)) (nomark _)) (pss_one (ps_ret (pe_op op_cat (pe_op op_cat (pe_lst (pa_cons pe_str (pa_cons (pe_ix ix_tup (pe_gr T.g_WAYS) (pe_ix ix_tup (pv 0) pe_int (fun _ _ => rfl)) (fun _ _ => rfl)) pa_nil))) (pe_cal u_line_words (h_line_words) (p0X (E := E0)) (pa_cons (pe_ix ix_tup (pv 0) pe_int (fun _ _ => rfl)) pa_nil))) (pv 1)))) pss_nil)
      (pss_one (ps_ret (pe_op op_cat (pe_op op_cat (pe_lst (pa_cons (pe_ix ix_list (pe_lst (pa_cons pe_str (pa_cons pe_str pa_nil))) (pe_op op_sub (pe_ix ix_tup (pv 0) pe_int (fun _ _ => rfl)) (pe_callB call_len_seq (by rfl) T.f_len PySem.boot_len (pa_cons (pe_gr T.g_WAYS) pa_nil))) (fun _ _ => rfl)) pa_nil)) (pe_cal u_line_words (h_line_words) (p0X (E := E0)) (pa_cons (pe_ix ix_tup (pv 0) pe_int (fun _ _ => rfl)) pa_nil))) (pv 1)))))))), ?_⟩
  try dsimp only [cxOf]
  clear h_line_words po nd
  obtain ⟨⟨v, f⟩, rfl, ⟨⟨a, ev, ha⟩, wf⟩, k⟩ := h
  dsimp only at ev wf k
  subst ev
  cases f with
  | plain t =>
    have wt : @LE.le Nat instLENat t 8 := wf
    walk_at "rd"
    exact ⟨by show 1 ≤ sizeLine; decide, fun D nD => k D _ [TINCTWORDS.getD t []] (Hc.Same.new (Same.refl H) nD) upd_same rfl (.inl (by simp)) (Nat.le_of_ble_eq_true rfl)⟩
  | parted d l x y =>
    obtain ⟨w1, w2, w3, w4, w5⟩ := wf
    have w3 : @LE.le Nat instLENat x 8 := w3
    have w4 : @LE.le Nat instLENat y 8 := w4
    walk_at "rd"
    refine ⟨by show 3 ≤ sizeLine; decide, fun D1 n1 => ?_⟩
    generalize hH1 : upd H D1 _ = H1
    have s1 : Same H H1 := by rw [← hH1]; exact Hc.Same.new (Same.refl H) n1
    have h1 : H1 D1 = some (.lst ([TINCTWORDS.getD x [], ascii "and", TINCTWORDS.getD y []].map tv)) := by rw [← hH1, upd_same]; rfl
    have ha1 := s1 _ _ ha
    show tSeq _ _ _ _ _
    refine ⟨_, rfl, _, _, _, _, rfl, rfl, SqT.of ha1, rfl, rfl, _, rfl, ?_⟩
    refine iteB (fun c => ?_) fun c => ?_
    · cases c
    show tSeq _ _ _ _ _
    refine ⟨_, rfl, _, _, _, _, rfl, rfl, SqT.of ha1, rfl, _, _, rfl, .inr (T.t_WAYS _), _, _, rfl, rfl, _, rfl, ?_⟩
    refine iteB (fun c => ?_) fun c => ?_
    · have c' : d ≤ 5 := by
        have z := of_decide_eq_true c
        have hl : w_WAYS.length = 6 := rfl
        omega
      dsimp only [tRet]
      refine cat3 (l := l) (heads := [ascii "per", WAYS7.getD d []]) (fun Q' q => ?_) (fun H' Q' sa q => ?_) rfl h1 (by simp) rfl fun p H' ts sa hD hg hne hlen => k p H' ts (fun b o z => sa _ _ (s1 _ _ z)) hD ?_ (.inl hne) (Nat.le_trans hlen (by decide))
      · walk_at "rd"
        refine ⟨by show 2 ≤ sizeLine; decide, fun D2 n2 => q D2 _ (Hc.Same.new (Same.refl _) n2) (by rw [upd_same]; rfl)⟩
      · have ha2 := sa _ _ ha1
        walk_at "rd"
        exact ⟨w2, fun D3 H3 ts s3 h3 hg _ hl => q D3 H3 ts s3 h3 hg hl⟩
      · rw [hg, glue_ways c', ← glue_app, ← glue_app]
        show glue _ = glue ((if d = 6 then [ascii "quarterly"] else if d = 7 then [ascii "gyronny"] else ascii "per" :: withSin WAYWORDS 3 d) ++ (lineWords l ++ twoWords x y))
        rw [if_neg (by omega), if_neg (by omega)]
        rfl
    · have c' : d = 6 ∨ d = 7 := by
        have z := of_decide_eq_false c
        have hl : w_WAYS.length = 6 := rfl
        omega
      dsimp only [tNext, tRet]
      refine cat3 (l := l) (heads := if d = 6 then [ascii "quarterly"] else [ascii "gyronny"]) (fun Q' q => ?_) (fun H' Q' sa q => ?_) rfl h1 (by split <;> simp) rfl fun p H' ts sa hD hg hne hlen => k p H' ts (fun b o z => sa _ _ (s1 _ _ z)) hD ?_ (.inl hne) (Nat.le_trans hlen (by decide))
      · refine ⟨by show 2 ≤ sizeLine; decide, fun D4 n4 => ?_⟩
        have s4 := Hc.Same.new (o := .lst [V.str "quarterly", V.str "gyronny"]) (Same.refl H1) n4
        refine ⟨_, rfl, _, _, _, _, rfl, rfl, SqT.of (s4 _ _ ha1), rfl, _, _, rfl, .inr (T.t_WAYS _), _, _, rfl, rfl, ?_⟩
        rcases c' with rfl | rfl
        · exact ⟨_, _, _, _, rfl, rfl, SqL.of upd_same, rfl, by show 1 ≤ sizeLine; decide, fun D5 n5 => q D5 _ (Hc.Same.new s4 n5) (by rw [upd_same]; rfl)⟩
        · exact ⟨_, _, _, _, rfl, rfl, SqL.of upd_same, rfl, by show 1 ≤ sizeLine; decide, fun D5 n5 => q D5 _ (Hc.Same.new s4 n5) (by rw [upd_same]; rfl)⟩
      · have ha2 := sa _ _ ha1
        walk_at "rd"
        exact ⟨w2, fun D3 H3 ts s3 h3 hg _ hl => q D3 H3 ts s3 h3 hg hl⟩
      · rw [hg, ← glue_app, ← glue_app]
        rcases c' with rfl | rfl <;> rfl
  | varied v n l x y =>
    obtain ⟨w1, w2, w3, w4, w5, w6⟩ := wf
    have w4 : @LE.le Nat instLENat x 8 := w4
    have w5 : @LE.le Nat instLENat y 8 := w5
    walk_at "rd"
    refine ⟨by show 3 ≤ sizeLine; decide, fun D1 n1 => ?_⟩
    generalize hH1 : upd H D1 _ = H1
    have s1 : Same H H1 := by rw [← hH1]; exact Hc.Same.new (Same.refl H) n1
    have h1 : H1 D1 = some (.lst ([TINCTWORDS.getD x [], ascii "and", TINCTWORDS.getD y []].map tv)) := by rw [← hH1, upd_same]; rfl
    have ha1 := s1 _ _ ha
    show tSeq _ _ _ _ _
    refine ⟨_, rfl, _, _, _, _, rfl, rfl, SqT.of ha1, rfl, rfl, _, rfl, ?_⟩
    refine iteB (fun c => ?_) fun c => ?_
    · dsimp only [tRet]
      refine cat3 (l := l) (heads := [VARS7.getD v [], ascii "of", number3 n]) (fun Q' q => ?_) (fun H' Q' sa q => ?_) rfl h1 (by simp) rfl fun p H' ts sa hD hg hne hlen => k p H' ts (fun b o z => sa _ _ (s1 _ _ z)) hD ?_ (.inl hne) (Nat.le_trans hlen (by decide))
      · walk_at "rd"
        refine ⟨log3 n (by omega), ?_⟩
        refine ⟨by show 3 ≤ sizeLine; decide, fun D2 n2 => q D2 _ (Hc.Same.new (Same.refl _) n2) ?_⟩
        rw [upd_same, dec3 n (by omega)]
        rfl
      · have ha2 := sa _ _ ha1
        walk_at "rd"
        exact ⟨w3, fun D3 H3 ts s3 h3 hg _ hl => q D3 H3 ts s3 h3 hg hl⟩
      · rw [hg]
        show glue ([VARS7.getD v []] ++ [ascii "of", number3 n]) ++ _ = glue (withSin VARYWORDS 3 v ++ ([ascii "of", decimal n] ++ (lineWords l ++ twoWords x y)))
        rw [glue_app, glue_app, glue_app, glue_app, glue_vars w1, List.append_assoc]
        unfold number3
        rw [if_pos (by omega)]
        rfl
    · cases c
def layWords : Layer → List (List UInt8)
  | .ord o l _ => ascii "a" :: (withSin ORDWORDS 5 o ++ lineWords l)
  | .group c n m s _ =>
    let w := sizeWords s ++ [(if n = 1 then CHARGEWORDS else SEVERAL).getD c []]
    (if n = 1 then (if vowel (w.headD []) = true then ascii "an" else ascii "a") else COUNTS.getD (n - 2) []) :: (w ++ mannerWords m)
theorem layWords_fill (l : Layer) : layerWords l = layWords l ++ fillWords l.fill := by
  cases l with
  | ord o l f => simp [layerWords, layWords, Layer.fill]
  | group c n m s f => simp [layerWords, layWords, Layer.fill]
def isGroup : Layer → Bool
  | .ord _ _ _ => false
  | .group _ _ _ _ _ => true
theorem head_vowel {s c n : Nat} (hs : 1 ≤ s ∧ s ≤ 4) (hc : c ≤ 15) : atI (tx ((sizeWords s ++ [(if n = 1 then CHARGEWORDS else SEVERAL).getD c []]).headD [])).cps.toList 0 = some (((sizeWords s ++ [(if n = 1 then CHARGEWORDS else SEVERAL).getD c []]).headD []).headD 0).toNat ∧
    decide ((((sizeWords s ++ [(if n = 1 then CHARGEWORDS else SEVERAL).getD c []]).headD []).headD 0).toNat ∈ (Str.ofString "aeiou").cps.toList) = vowel ((sizeWords s ++ [(if n = 1 then CHARGEWORDS else SEVERAL).getD c []]).headD []) ∧
    (tx ((sizeWords s ++ [(if n = 1 then CHARGEWORDS else SEVERAL).getD c []]).headD [])).length ≤ 20 := by
  have z : ∀ s : Fin 5, ∀ c : Fin 16, ∀ t : Bool, 1 ≤ s.val → atI (tx ((sizeWords s.val ++ [(if t = true then CHARGEWORDS else SEVERAL).getD c.val []]).headD [])).cps.toList 0 = some (((sizeWords s.val ++ [(if t = true then CHARGEWORDS else SEVERAL).getD c.val []]).headD []).headD 0).toNat ∧
    decide ((((sizeWords s.val ++ [(if t = true then CHARGEWORDS else SEVERAL).getD c.val []]).headD []).headD 0).toNat ∈ (Str.ofString "aeiou").cps.toList) = vowel ((sizeWords s.val ++ [(if t = true then CHARGEWORDS else SEVERAL).getD c.val []]).headD []) ∧
    (tx ((sizeWords s.val ++ [(if t = true then CHARGEWORDS else SEVERAL).getD c.val []]).headD [])).length ≤ 20 := by decide +kernel
  have y := z ⟨s, by omega⟩ ⟨c, by omega⟩ (decide (n = 1)) hs.1
  simp only [decide_eq_true_eq] at y
  exact y
theorem several_tx {c : Nat} (h : c ≤ 15) : tx (CHARGEWORDS.getD c []) ++ Str.ofString "s" = tx (SEVERAL.getD c []) := by
  have z : ∀ c : Fin 16, tx (CHARGEWORDS.getD c.val []) ++ Str.ofString "s" = tx (SEVERAL.getD c.val []) := by decide +kernel
  exact z ⟨c, by omega⟩
theorem several_len {c : Nat} (h : c ≤ 15) : (tx (CHARGEWORDS.getD c [])).length + (Str.ofString "s").length ≤ 20 := by
  have z : ∀ c : Fin 16, (tx (CHARGEWORDS.getD c.val [])).length + (Str.ofString "s").length ≤ 20 := by decide +kernel
  exact z ⟨c, by omega⟩
abbrev spGroupW (K : PySem.W.Frag) : Sp := spWords (ι := V × Layer × Field) 9 (fun i => [i.1]) (fun H i => IsLayer K H i.1 i.2.1 ∧ WfLayer i.2.2 i.2.1 ∧ isGroup i.2.1 = true) (fun i => layWords i.2.1)
theorem ok_group_words (T : Txt w K mg)  : Cal P w K mg base CX0 1 "group_words" p_group_words (spGroupW K) := by
  refine T.d_group_words.cal sc_group_words (fun vs H Q E h => by obtain ⟨_, rfl, _⟩ := h; rfl) ?_
  intro cdv A outer s0 H vs Q E hr h
  have nd := sc_group_words.nd
  have po := poX (CX := CX0) (P := P) (w := w) (K := K) (mg := mg) (base := base) (N := n_group_words) (q := "group_words") (sc := defScope s_group_words) (f := He.ga K "group_words") (cdv := cdv) (A := A) (outer := outer) (s := s0) (H := H) (E := E)
  refine ⟨_, (pss_cons (ps_asg (pe_fld (pv 0) rfl) (pg_unl rfl (pgs_cons (pg_name (i := 1) nd rfl (Or.inl rfl)) (pgs_cons (pg_name (i := 2) nd rfl (Or.inl rfl)) (pgs_cons (pg_name (i := 3) nd rfl (Or.inl rfl)) (pgs_cons (pg_name (i := 4) nd rfl (Or.inl rfl)) pgs_nil))))))
      (pss_cons (ps_set (i := 5) nd rfl (Or.inl rfl) (pe_ifExp (pt_cmpR op_eq (pv 4) pe_int (nomark _)) (pe_lst pa_nil) (pe_lst (pa_cons (pe_ix ix_tup (pe_gr T.g_SIZES) (pv 4) (fun _ _ => rfl)) pa_nil))))
      (pss_cons (ps_expr (pe_bm PySem.F.plainAttrs_list PySem.F.slot_list_append PySem.F.type_list_append mt_append (pv 5) (pa_cons (pe_ifExp (pt_cmpR op_eq (pv 2) pe_int (nomark _)) (pe_ix ix_tup (pe_gr T.g_CHARGES) (pv 1) (fun _ _ => rfl)) (pe_op op_add_str (pe_ix ix_tup (pe_gr T.g_CHARGES) (pv 1) (fun _ _ => rfl)) (pe_gs T.z_SEVERAL))) pa_nil)))
      (pss_cons (ps_set (i := 6) nd rfl (Or.inl rfl) (pe_ifExp (pt_cmpR op_in_sign (pe_ix ix_str (pe_ix ix_list (pv 5) pe_int (fun _ _ => rfl)) pe_int (fun _ _ => rfl)) (pe_gs T.z_VOWELS) rfl) pe_str pe_str))
      (pss_cons (ps_set (i := 5) nd rfl (Or.inl rfl) (pe_op op_cat (pe_lst (pa_cons (pe_ifExp (pt_cmpR op_eq (pv 2) pe_int (nomark _)) (pv 6) (pe_ix ix_tup (pe_gr T.g_COUNTS) (pe_op op_sub (pv 2) pe_int) (fun _ _ => rfl))) pa_nil)) (pv 5)))
      (pss_one (ps_ret (pe_ifExp (pt_cmpR op_eq (pv 3) pe_int (nomark _)) (pv 5) (pe_op op_cat (pv 5) (pe_lst (pa_cons pe_str (pa_cons (pe_ix ix_tup (pe_gr T.g_MANNERS) (pv 3) (fun _ _ => rfl)) pa_nil)))))))))))), ?_⟩
  try dsimp only [cxOf]
  clear po nd
  obtain ⟨⟨v, l, below⟩, rfl, ⟨⟨a, dx, nn, fv, ev, ha, hn, hf⟩, wf, hg⟩, k⟩ := h
  dsimp only at ev ha hn hf wf hg k
  subst ev
  cases l with
  | ord o l f => cases hg
  | group c n m s f =>
    obtain ⟨w1, w2, w3, w4, w5⟩ := wf
    walk_at "rd"
    refine ⟨_, _, rfl, SqL.of hn, rfl, _, _, rfl, _, _, rfl, _, _, rfl, _, _, rfl, rfl, ?_⟩
    generalize hcw : (if n = 1 then CHARGEWORDS else SEVERAL).getD c [] = cw
    obtain ⟨hv1, hv2, hv3⟩ := head_vowel (s := s) (c := c) (n := n) w4 w1
    rw [hcw] at hv1 hv2 hv3
    show tSeq _ _ _ _ _
    have f1 : ∀ Q' : VK, (∀ D1 H1, Same H H1 → H D1 = none → H1 D1 = some (.lst ((sizeWords s).map tv)) → Q' (.ref D1) H1) → tIf (tTest (tOp rEq (tVar 4) (tC (V.int 3)))) (tLst tNil) (tLst (tCons (tOp (rIxT K) (tC (V.ref (He.ga K "SIZES"))) (tVar 4)) tNil)) [some (.ref a), some (.int (c : Int)), some (.int (n : Int)), some (.int (m : Int)), some (.int (s : Int)), none, none] H Q' := fun Q' q => by
      walk_at "rd"
      refine iteB (fun c1 => ?_) fun c1 => ?_
      · have c2 : V.int (s : Int) = V.int 3 := of_decide_eq_true c1
        injection c2 with c2
        have e : s = 3 := by omega
        subst e
        exact ⟨by show 0 ≤ sizeLine; decide, fun D nD => q D _ (Hc.Same.new (Same.refl H) nD) nD upd_same⟩
      · have c2 : s ≠ 3 := fun z => of_decide_eq_false c1 (by rw [z]; rfl)
        walk_at "rd"
        refine ⟨by show 1 ≤ sizeLine; decide, fun D nD => q D _ (Hc.Same.new (Same.refl H) nD) nD ?_⟩
        rw [upd_same]
        rcases (show s = 1 ∨ s = 2 ∨ s = 4 by omega) with rfl | rfl | rfl <;> rfl
    refine f1 _ fun D1 H1 s1 n1 h1 => ?_
    show tSeq _ _ _ _ _
    refine ⟨_, rfl, .inl ⟨rfl, _, SqL.of h1⟩, ?_⟩
    have f2 : ∀ Q' : VK, Q' (tv cw) H1 → tIf (tTest (tOp rEq (tVar 2) (tC (V.int 1)))) (tOp (rIxT K) (tC (V.ref (He.ga K "CHARGES"))) (tVar 1)) (tOp (fun x y H Q => ∃ i j, x = V.str i ∧ y = V.str j ∧ i.length + j.length ≤ sizeLine ∧ Q (V.str (i ++ j)) H) (tOp (rIxT K) (tC (V.ref (He.ga K "CHARGES"))) (tVar 1)) (tC (V.str "s"))) [some (.ref a), some (.int (c : Int)), some (.int (n : Int)), some (.int (m : Int)), some (.int (s : Int)), some (.ref D1), none] H1 Q' := fun Q' q => by
      walk_at "rd"
      refine iteB (fun c1 => ?_) fun c1 => ?_
      · have c2 : V.int (n : Int) = V.int 1 := of_decide_eq_true c1
        injection c2 with c2
        have e : n = 1 := by omega
        subst e
        rw [if_pos rfl] at hcw
        walk_at "rd"
        rw [hcw]
        exact q
      · have c2 : n ≠ 1 := fun z => of_decide_eq_false c1 (by rw [z]; rfl)
        rw [if_neg c2] at hcw
        walk_at "rd"
        refine ⟨Nat.le_trans (several_len w1) (by decide), ?_⟩
        rw [several_tx w1, hcw]
        exact q
    refine f2 _ ?_
    refine ⟨D1, _, _, rfl, rfl, h1, ?_, ?_⟩
    · rw [List.length_map]
      exact Nat.lt_of_le_of_lt (show (sizeWords s).length ≤ 1 by unfold sizeWords; split <;> simp) (by decide)
    have k0 : ∀ D H' ts, Same H H' → H' D = some (.lst (ts.map tv)) → glue ts = glue ((if n = 1 then (if vowel ((sizeWords s ++ [cw]).headD []) = true then ascii "an" else ascii "a") else COUNTS.getD (n - 2) []) :: ((sizeWords s ++ [cw]) ++ mannerWords m)) → ts ≠ [] → ts.length ≤ 9 → Q (.ref D) H' := fun D H' ts sa hD hg hne hl => k D H' ts sa hD (by
      rw [hg]
      unfold layWords
      dsimp only
      rw [hcw]) (.inl hne) hl
    clear k
    generalize hw : sizeWords s ++ [cw] = wd at *
    have hwl : wd.length ≤ 2 := by
      rw [← hw]
      unfold sizeWords
      split <;> simp
    have hwn : wd ≠ [] := by rw [← hw]; simp
    generalize hH2 : upd H1 D1 _ = H2
    have h2 : H2 D1 = some (.lst (wd.map tv)) := by rw [← hH2, upd_same, ← hw, List.map_append]; rfl
    have s2 : Same H H2 := fun b o z => by
      rw [← hH2, upd_ne (ne_of_none z n1)]
      exact s1 _ _ z
    show tSeq _ _ _ _ _
    have hd0 : atI (wd.map tv) 0 = some (tv (wd.headD [])) := by
      cases wd with
      | nil => exact absurd rfl hwn
      | cons x r => exact atI_nat (j := 0) rfl
    have f3 : ∀ Q' : VK, Q' (tv (if vowel (wd.headD []) = true then ascii "an" else ascii "a")) H2 → tIf (tTest (tOp (fun x y H Q => ∃ c z, x = V.str { cps := #[c] } ∧ y = V.str z ∧ Q (V.bl (decide (c ∈ z.cps.toList))) H) (tOp rIxS (tOp (rIxL K) (tVar 5) (tC (V.int 0))) (tC (V.int 0))) (tC (V.str "aeiou")))) (tC (V.str "an")) (tC (V.str "a")) [some (.ref a), some (.int (c : Int)), some (.int (n : Int)), some (.int (m : Int)), some (.int (s : Int)), some (.ref D1), none] H2 Q' := fun Q' q => by
      refine ⟨_, rfl, _, _, _, _, rfl, rfl, SqL.of h2, hd0, _, _, _, rfl, rfl, Nat.le_trans hv3 (by decide), hv1, _, _, rfl, rfl, _, rfl, ?_⟩
      rw [hv2]
      refine iteB (fun c1 => ?_) fun c1 => ?_
      · rw [if_pos c1] at q
        exact q
      · rw [if_neg (by rw [c1]; decide)] at q
        exact q
    refine f3 _ ?_
    generalize (if vowel (wd.headD []) = true then ascii "an" else ascii "a") = art at *
    show tSeq _ _ _ _ _
    have f4 : ∀ Q' : VK, Q' (tv (if n = 1 then art else COUNTS.getD (n - 2) [])) H2 → tIf (tTest (tOp rEq (tVar 2) (tC (V.int 1)))) (tVar 6) (tOp (rIxT K) (tC (V.ref (He.ga K "COUNTS"))) (tOp (rI0 fun i j => V.int (i - j)) (tVar 2) (tC (V.int 1)))) [some (.ref a), some (.int (c : Int)), some (.int (n : Int)), some (.int (m : Int)), some (.int (s : Int)), some (.ref D1), some (tv art)] H2 Q' := fun Q' q => by
      walk_at "rd"
      refine iteB (fun c1 => ?_) fun c1 => ?_
      · have c2 : V.int (n : Int) = V.int 1 := of_decide_eq_true c1
        injection c2 with c2
        have e : n = 1 := by omega
        subst e
        exact ⟨_, rfl, q⟩
      · have c2 : n ≠ 1 := fun z => of_decide_eq_false c1 (by rw [z]; rfl)
        rw [if_neg c2] at q
        have e1 : (n : Int) - 1 = ((n - 1 : Nat) : Int) := by omega
        have e2 : CNTS10.getD (n - 1) [] = COUNTS.getD (n - 2) [] := by
          rw [show n - 1 = (n - 2) + 1 by omega]
          rfl
        refine ⟨_, rfl, _, _, rfl, rfl, _, _, _, _, rfl, rfl, T.t_COUNTS _, (by show atI w_COUNTS ((n : Int) - 1) = some (tv (CNTS10.getD (n - 1) [])); rw [t_counts, e1]; exact atI_nat (map_at (by show n - 1 < 10; omega))), ?_⟩
        rw [e2]
        exact q
    refine f4 _ ?_
    generalize (if n = 1 then art else COUNTS.getD (n - 2) []) = fst at *
    refine ⟨by show 1 ≤ sizeLine; decide, fun D2 n2 => ?_⟩
    refine ⟨_, rfl, ?_⟩
    have s3 := Hc.Same.new (o := .lst [tv fst]) (Same.refl H2) n2
    refine cat_two upd_same (s3 _ _ h2) ?_ fun D3 n3 => ?_
    · simp only [List.length_map, List.length_cons, List.length_nil]
      exact Nat.le_trans (by omega : 0 + 1 + wd.length ≤ 3) (by decide)
    have s4 := Hc.Same.new (o := .lst ([tv fst] ++ wd.map tv)) s3 n3
    generalize hH4 : upd _ D3 _ = H4
    have h4 : H4 D3 = some (.lst ((fst :: wd).map tv)) := by rw [← hH4, upd_same]; rfl
    have s5 : Same H H4 := fun b o z => by
      rw [← hH4]
      exact s4 _ _ (s2 _ _ z)
    refine ⟨_, rfl, rfl, _, rfl, ?_⟩
    refine iteB (fun c1 => ?_) fun c1 => ?_
    · have c2 : V.int (m : Int) = V.int 0 := of_decide_eq_true c1
      injection c2 with c2
      have e : m = 0 := by omega
      subst e
      refine ⟨_, rfl, k0 D3 H4 (fst :: wd) s5 h4 ?_ (by simp) (by simp; omega)⟩
      rw [show mannerWords 0 = [] from rfl, List.append_nil]
    · have c2 : m ≠ 0 := fun z => of_decide_eq_false c1 (by rw [z]; rfl)
      walk_at "rd"
      refine ⟨by show 2 ≤ sizeLine; decide, fun D5 n5 => ?_⟩
      have s6 := Hc.Same.new (o := .lst [tv (ascii "in"), tv (MANS7.getD m [])]) (Same.refl H4) n5
      refine cat_two (s6 _ _ h4) upd_same ?_ fun D6 n6 => ?_
      · simp only [List.length_map, List.length_cons, List.length_nil]
        exact Nat.le_trans (by omega : wd.length + 1 + (0 + 1 + 1) ≤ 5) (by decide)
      refine k0 D6 _ ((fst :: wd) ++ [ascii "in", MANS7.getD m []]) (fun b o z => (Hc.Same.new s6 n6) _ _ (s5 _ _ z)) ?_ ?_ (by simp) (by simp; omega)
      · rw [upd_same, List.map_append]
        rfl
      · have em : mannerWords m = ascii "in" :: withSin MANNERWORDS 4 m := by
          unfold mannerWords
          rw [if_neg c2]
        rw [em, show fst :: (wd ++ ascii "in" :: withSin MANNERWORDS 4 m) = (fst :: wd) ++ ([ascii "in"] ++ withSin MANNERWORDS 4 m) by simp, show [ascii "in", MANS7.getD m []] = [ascii "in"] ++ [MANS7.getD m []] from rfl]
        rw [glue_app, glue_app, glue_app, glue_app, glue_mans (by omega)]
end
end Hc

namespace Hc
open PySem PySem.Spec PyProof.Rows L2
open Sh ShMarsh ShBlazon
set_option hygiene false
local macro_rules | `(tactic| walk_at "hp") => `(tactic| first | assumption | exact Src.ob (by assumption) | exact upd_same)
local macro_rules | `(tactic| walk_at "sq") => `(tactic| first | assumption | exact Src.sq (by assumption) | exact SqL.of (by assumption) | exact SqL.of upd_same | exact SqT.of (by assumption) | exact SqT.of upd_same)
local macro_rules | `(tactic| walk_at "cl") => `(tactic| with_reducible first | exact T.c_Bytes | exact T.c_Coat | exact T.c_Arms | exact T.c_Layer)
local macro_rules | `(tactic| walk_at "na") => `(tactic| with_reducible first | exact T.n_Bytes_some | exact T.n_Bytes_at | exact T.n_Coat_kind | exact T.n_Coat_arms | exact T.n_Coat_canton | exact T.n_Coat_marks | exact T.n_Coat_coats | exact T.n_Arms_field | exact T.n_Arms_layers | exact T.n_Layer_kind | exact T.n_Layer_numbers | exact T.n_Layer_fill)
local macro_rules | `(tactic| walk_at "ai") => `(tactic| first | assumption | exact atI_nat (by assumption) | rfl)
local macro_rules | `(tactic| walk_at "rd1") => `(tactic| first
  | refine ⟨_, rfl, ?_⟩
  | refine ⟨rfl, ?_⟩
  | refine ⟨_, _, rfl, rfl, ?_⟩
  | refine ⟨_, _, _, _, _, rfl, (by walk_at "hp"), (by walk_at "cl"), (by walk_at "na"), (by rfl), ?_⟩
  | refine ⟨_, _, _, _, rfl, (by walk_at "hp"), (by walk_at "cl"), (by walk_at "na"), Nat.le_of_ble_eq_true rfl, ?_⟩
  | refine ⟨_, _, _, _, rfl, rfl, (by walk_at "sq"), (by walk_at "ai"), ?_⟩
  | refine ⟨_, _, rfl, (by first | exact Or.inl (by walk_at "sq") | exact Or.inr (by walk_at "sq")), ?_⟩
  | refine ⟨(by walk_at "ar"), ?_⟩)
local macro_rules | `(tactic| walk_at "ar") => `(tactic| first | exact (show CDiv _ _ from ⟨by decide, by decide⟩) | exact (show (0 : Int) < _ from by decide) | exact (show CMul _ _ from .inl ⟨by omega, by omega⟩) | exact (show CMul _ _ from .inr ⟨by omega, by omega⟩))
local macro_rules | `(tactic| walk_at "rd") => `(tactic| repeat walk_at "rd1")
local macro_rules | `(tactic| walk_at "fa") => `(tactic| first | exact ⟨_, rfl, (by omega), rfl⟩ | exact ⟨_, _, rfl, (by omega), rfl⟩ | exact ⟨_, _, _, rfl, (by omega), rfl⟩ | exact ⟨_, _, _, _, rfl, (by omega), rfl⟩ | exact ⟨_, _, _, _, _, rfl, (by omega), rfl⟩)
local macro_rules | `(tactic| walk_at "vr") => `(tactic| first
  | exact v_var (by rfl)
  | exact v_c
  | (apply v_i0 <;> walk_at "vr")
  | (apply v_i <;> first | walk_at "ar" | walk_at "vr")
  | (apply v_neg <;> walk_at "vr")
  | (apply v_eq <;> walk_at "vr")
  | (apply v_eqB <;> walk_at "vr")
  | (apply v_ne <;> walk_at "vr")
  | (apply v_neB <;> walk_at "vr")
  | (apply v_chain (g := fun _ _ => _) (g' := fun _ _ => _) <;> walk_at "vr")
  | (apply v_and <;> walk_at "vr")
  | (apply v_or <;> walk_at "vr")
  | (apply v_not <;> walk_at "vr")
  | (apply v_ifI <;> walk_at "vr")
  | (apply v_ifB <;> walk_at "vr")
  | (apply v_call <;> first | walk_at "fa" | walk_at "vr")
  | (apply v_abs <;> walk_at "vr")
  | (apply v_min <;> walk_at "vr")
  | exact va_nil
  | (apply va_cons <;> walk_at "vr")
  | (apply a_test <;> walk_at "vr")
  | (apply a_B <;> walk_at "vr")
  | (apply a_and <;> walk_at "vr")
  | (apply a_or <;> walk_at "vr")
  | (apply a_not <;> walk_at "vr"))
local macro_rules | `(tactic| walk_at "rs") => `(tactic| first
  | (apply r_ret; walk_at "vr")
  | (apply r_set; walk_at "vr"; walk_at "rs")
  | (apply r_ifI; walk_at "vr"; intro _; walk_at "rs"; intro _; walk_at "rs")
  | (apply r_ifB; walk_at "vr"; intro _; walk_at "rs"; intro _; walk_at "rs"))

local macro_rules | `(tactic| walk_at "sq") => `(tactic| with_reducible first | exact T.t_ORDINARIES _)
local macro_rules | `(tactic| walk_at "ai") => `(tactic| (rw [t_ords]; exact atI_nat (map_at (by show _ < 13; omega))))
section
variable {P : Program} {w : World} {K : PySem.W.Frag} {mg : Str → Option Value} {base : Heap}
abbrev spLayerW (K : PySem.W.Frag) : Sp := spWords (ι := V × Layer × Field) 40 (fun i => [i.1]) (fun H i => IsLayer K H i.1 i.2.1 ∧ WfLayer i.2.2 i.2.1) (fun i => layerWords i.2.1)
theorem ok_layer_words (T : Txt w K mg) (u_line_words : Cal P w K mg base CX0 1 "line_words" p_line_words spLine) (u_group_words : Cal P w K mg base CX0 1 "group_words" p_group_words (spGroupW K)) (u_field_words : Cal P w K mg base CX0 2 "field_words" p_field_words spFieldW) : Cal P w K mg base CX0 3 "layer_words" p_layer_words (spLayerW K) := by
  refine T.d_layer_words.cal sc_layer_words (fun vs H Q E h => by obtain ⟨_, rfl, _⟩ := h; rfl) ?_
  intro cdv A outer s0 H vs Q E hr h
  have nd := sc_layer_words.nd
  have po := poX (CX := CX0) (P := P) (w := w) (K := K) (mg := mg) (base := base) (N := n_layer_words) (q := "layer_words") (sc := defScope s_layer_words) (f := He.ga K "layer_words") (cdv := cdv) (A := A) (outer := outer) (s := s0) (H := H) (E := E)
  have h_line_words : Room (1) _ := hr.mono (by omega)
  have h_group_words : Room (1) _ := hr.mono (by omega)
  have h_field_words : Room (2) _ := hr.mono (by omega)
  refine ⟨_, (pss_cons (ps_if (pt_cmpR op_eq (pe_fld (pv 0) rfl) (pe_gi T.i_ORDINARY) (nomark _)) (pss_one (ps_set (i := 1) nd rfl (Or.inl rfl) (pe_op op_cat (pe_lst (pa_cons pe_str (pa_cons (pe_ix ix_tup (pe_gr T.g_ORDINARIES) (pe_ix ix_list (pe_fld (pv 0) rfl) pe_int (fun _ _ => rfl)) (fun _ _ => rfl)) pa_nil))) (pe_cal u_line_words (h_line_words) (p0X (E := E0)) (pa_cons (pe_ix ix_list (pe_fld (pv 0) rfl) pe_int (fun _ _ => rfl)) pa_nil))))) (pss_one (ps_set (i := 1) nd rfl (Or.inl rfl) (pe_cal u_group_words (h_group_words) (p0X (E := E0)) (pa_cons (pv 0) pa_nil)))))
      (pss_one (ps_ret (pe_op op_cat (pv 1) (pe_ifExp (pt_cmp (pc_isN (pe_fld (pv 0) rfl))) (pe_lst (pa_cons pe_str pa_nil)) (pe_cal u_field_words (h_field_words) (p0X (E := E0)) (pa_cons (pe_fld (pv 0) rfl) pa_nil))))))), ?_⟩
  try dsimp only [cxOf]
  clear h_field_words h_group_words h_line_words po nd
  obtain ⟨⟨v, l, below⟩, rfl, ⟨is, wf⟩, k⟩ := h
  dsimp only at is wf k
  have fin : ∀ (a : Addr) (D : Addr) (H1 : Hp) (ts : List (List UInt8)), v = .ref a → Same H H1 → H1 D = some (.lst (ts.map tv)) → glue ts = glue (layWords l) → ts ≠ [] → ts.length ≤ 11 →
      tRet (tOp rCat (tVar 1) (tIf (tB (tIsN (tFld K (tVar 0) "fill"))) (tLst (tCons (tC (V.str "counterchanged")) tNil)) (tCall spFieldW [] E0 (tCons (tFld K (tVar 0) "fill") tNil)))) { nx := fun x H' => Q V.non H', rt := Q } [some v, some (.ref D)] H1 := fun a D H1 ts ev s1 h1 hg hne hl => by
    subst ev
    obtain ⟨a', dx, nn, fv, ea, ha, hn, hf⟩ := IsLayer.up s1 is
    cases ea
    have wF : WfFill below l.fill := by
      cases l with
      | ord o l f => exact wf.2.2
      | group c n m s f => exact wf.2.2.2.2
    have k1 : ∀ p H' us, Same H1 H' → H' p = some (.lst ((ts ++ us).map tv)) → glue us = glue (fillWords l.fill) → us.length ≤ 20 → Q (.ref p) H' := fun p H' us s2 hp hu hul => k p H' (ts ++ us) (fun b o z => s2 _ _ (s1 _ _ z)) hp (by rw [glue_app, hg, hu, layWords_fill, glue_app]) (.inl (by simp [hne])) (by simp only [List.length_append]; omega)
    generalize l.fill = F at *
    cases F with
    | counter =>
      obtain rfl : fv = .non := hf
      walk_at "rd"
      refine iteB (fun c => ?_) fun c => ?_
      · refine ⟨by show 1 ≤ sizeLine; decide, fun D5 n5 => ?_⟩
        have s5 := Hc.Same.new (o := .lst [V.str "counterchanged"]) (Same.refl H1) n5
        refine cat_two (s5 _ _ h1) upd_same ?_ fun p np => ?_
        · simp only [List.length_map, List.length_cons, List.length_nil]
          exact Nat.le_trans (by omega : ts.length + (0 + 1) ≤ 12) (by decide)
        · exact k1 p _ [ascii "counterchanged"] (Hc.Same.new s5 np) (by rw [upd_same, List.map_append]; rfl) rfl (Nat.le_of_ble_eq_true rfl)
      · simp at c
    | solid f =>
      obtain ⟨fa, rfl, hfa⟩ := id hf
      walk_at "rd"
      refine ⟨(.ref fa, f), rfl, ⟨hf, wF⟩, fun D5 H5 us s5 h5 hg5 _ hl5 => cat_two (s5 _ _ h1) h5 ?_ fun p np => ?_⟩
      · simp only [List.length_map]
        exact Nat.le_trans (by omega : ts.length + us.length ≤ 31) (by decide)
      · exact k1 p _ us (Hc.Same.new s5 np) (by rw [upd_same, List.map_append]) hg5 hl5
  cases l with
  | ord o l f =>
    obtain ⟨w1, w2, w3⟩ := wf
    obtain ⟨a, dx, nn, fv, rfl, ha, hn, hf⟩ := id is
    walk_at "rd"
    refine ⟨by show 2 ≤ sizeLine; decide, fun D1 n1 => ?_⟩
    generalize hH2 : upd H D1 _ = H2
    have s2 : Same H H2 := by rw [← hH2]; exact Hc.Same.new (Same.refl H) n1
    have h2 : H2 D1 = some (.lst ([ascii "a", ORDS13.getD o []].map tv)) := by rw [← hH2, upd_same]; rfl
    have ha2 := s2 _ _ ha
    have hn2 := s2 _ _ hn
    walk_at "rd"
    refine ⟨w2, fun D3 H3 ts s3 h3 hg _ hl => cat_two (s3 _ _ h2) h3 ?_ fun p np => ?_⟩
    · simp only [List.length_map, List.length_cons, List.length_nil]
      exact Nat.le_trans (by omega : 0 + 1 + 1 + ts.length ≤ 11) (by decide)
    · refine fin a p _ ([ascii "a", ORDS13.getD o []] ++ ts) rfl (Hc.Same.new (fun b o z => s3 _ _ (s2 _ _ z)) np) (by rw [upd_same, List.map_append]) ?_ (by simp) (by simp; omega)
      show _ = glue ([ascii "a"] ++ (withSin ORDWORDS 5 o ++ lineWords l))
      rw [glue_app, hg, glue_app, glue_app, ← glue_ords w1, show [ascii "a", ORDS13.getD o []] = [ascii "a"] ++ [ORDS13.getD o []] from rfl, glue_app, List.append_assoc]
  | group c n m s f =>
    obtain ⟨a, dx, nn, fv, rfl, ha, hn, hf⟩ := id is
    walk_at "rd"
    exact ⟨⟨is, wf, rfl⟩, fun D H' ts s1 h1 hg hne hl => fin a D H' ts rfl s1 h1 hg (hne.resolve_right (by simp [layWords])) (by omega)⟩
end
end Hc

namespace Hc
open PySem PySem.Spec PyProof.Rows L2
open Sh ShMarsh ShBlazon
set_option hygiene false
local macro_rules | `(tactic| walk_at "hp") => `(tactic| first | assumption | exact Src.ob (by assumption) | exact upd_same)
local macro_rules | `(tactic| walk_at "sq") => `(tactic| first | assumption | exact Src.sq (by assumption) | exact SqL.of (by assumption) | exact SqL.of upd_same | exact SqT.of (by assumption) | exact SqT.of upd_same)
local macro_rules | `(tactic| walk_at "cl") => `(tactic| with_reducible first | exact T.c_Bytes | exact T.c_Coat | exact T.c_Arms | exact T.c_Layer)
local macro_rules | `(tactic| walk_at "na") => `(tactic| with_reducible first | exact T.n_Bytes_some | exact T.n_Bytes_at | exact T.n_Coat_kind | exact T.n_Coat_arms | exact T.n_Coat_canton | exact T.n_Coat_marks | exact T.n_Coat_coats | exact T.n_Arms_field | exact T.n_Arms_layers | exact T.n_Layer_kind | exact T.n_Layer_numbers | exact T.n_Layer_fill)
local macro_rules | `(tactic| walk_at "ai") => `(tactic| first | assumption | exact atI_nat (by assumption) | rfl)
local macro_rules | `(tactic| walk_at "rd1") => `(tactic| first
  | refine ⟨_, rfl, ?_⟩
  | refine ⟨rfl, ?_⟩
  | refine ⟨_, _, rfl, rfl, ?_⟩
  | refine ⟨_, _, _, _, _, rfl, (by walk_at "hp"), (by walk_at "cl"), (by walk_at "na"), (by rfl), ?_⟩
  | refine ⟨_, _, _, _, rfl, (by walk_at "hp"), (by walk_at "cl"), (by walk_at "na"), Nat.le_of_ble_eq_true rfl, ?_⟩
  | refine ⟨_, _, _, _, rfl, rfl, (by walk_at "sq"), (by walk_at "ai"), ?_⟩
  | refine ⟨_, _, rfl, (by first | exact Or.inl (by walk_at "sq") | exact Or.inr (by walk_at "sq")), ?_⟩
  | refine ⟨(by walk_at "ar"), ?_⟩)
local macro_rules | `(tactic| walk_at "ar") => `(tactic| first | exact (show CDiv _ _ from ⟨by decide, by decide⟩) | exact (show (0 : Int) < _ from by decide) | exact (show CMul _ _ from .inl ⟨by omega, by omega⟩) | exact (show CMul _ _ from .inr ⟨by omega, by omega⟩))
local macro_rules | `(tactic| walk_at "rd") => `(tactic| repeat walk_at "rd1")
local macro_rules | `(tactic| walk_at "fa") => `(tactic| first | exact ⟨_, rfl, (by omega), rfl⟩ | exact ⟨_, _, rfl, (by omega), rfl⟩ | exact ⟨_, _, _, rfl, (by omega), rfl⟩ | exact ⟨_, _, _, _, rfl, (by omega), rfl⟩ | exact ⟨_, _, _, _, _, rfl, (by omega), rfl⟩)
local macro_rules | `(tactic| walk_at "vr") => `(tactic| first
  | exact v_var (by rfl)
  | exact v_c
  | (apply v_i0 <;> walk_at "vr")
  | (apply v_i <;> first | walk_at "ar" | walk_at "vr")
  | (apply v_neg <;> walk_at "vr")
  | (apply v_eq <;> walk_at "vr")
  | (apply v_eqB <;> walk_at "vr")
  | (apply v_ne <;> walk_at "vr")
  | (apply v_neB <;> walk_at "vr")
  | (apply v_chain (g := fun _ _ => _) (g' := fun _ _ => _) <;> walk_at "vr")
  | (apply v_and <;> walk_at "vr")
  | (apply v_or <;> walk_at "vr")
  | (apply v_not <;> walk_at "vr")
  | (apply v_ifI <;> walk_at "vr")
  | (apply v_ifB <;> walk_at "vr")
  | (apply v_call <;> first | walk_at "fa" | walk_at "vr")
  | (apply v_abs <;> walk_at "vr")
  | (apply v_min <;> walk_at "vr")
  | exact va_nil
  | (apply va_cons <;> walk_at "vr")
  | (apply a_test <;> walk_at "vr")
  | (apply a_B <;> walk_at "vr")
  | (apply a_and <;> walk_at "vr")
  | (apply a_or <;> walk_at "vr")
  | (apply a_not <;> walk_at "vr"))
local macro_rules | `(tactic| walk_at "rs") => `(tactic| first
  | (apply r_ret; walk_at "vr")
  | (apply r_set; walk_at "vr"; walk_at "rs")
  | (apply r_ifI; walk_at "vr"; intro _; walk_at "rs"; intro _; walk_at "rs")
  | (apply r_ifB; walk_at "vr"; intro _; walk_at "rs"; intro _; walk_at "rs"))

section
variable {P : Program} {w : World} {K : PySem.W.Frag} {mg : Str → Option Value} {base : Heap}
theorem glue_sum : ∀ ts : List (List UInt8), (ts.map List.length).sum + ts.length = (glue ts).length
  | [] => rfl
  | x :: r => by
    have ih := glue_sum r
    show (x.length + (r.map List.length).sum) + (r.length + 1) = ((32 :: x) ++ glue r).length
    rw [List.length_append, ← ih, List.length_cons]
    omega
theorem spaced_len (ws : List (List UInt8)) : (spaced ws).length ≤ (glue ws).length := by
  rw [spaced_join]
  cases ws with
  | nil => simp [joinB]
  | cons x r =>
    rw [← glue_spaced (x :: r) (by simp), List.length_cons]
    omega
theorem len_tinct {a : Nat} (h : a ≤ 8) : (glue [TINCTWORDS.getD a []]).length ≤ 10 := by
  have z : ∀ a : Fin 9, (glue [TINCTWORDS.getD a.val []]).length ≤ 10 := by decide +kernel
  exact z ⟨a, by omega⟩
theorem len_line {a : Nat} (h : a ≤ 5) : (glue (lineWords a)).length ≤ 12 := by
  have z : ∀ a : Fin 6, (glue (lineWords a.val)).length ≤ 12 := by decide +kernel
  exact z ⟨a, by omega⟩
theorem len_twoW {a b : Nat} (ha : a ≤ 8) (hb : b ≤ 8) : (glue (twoWords a b)).length ≤ 24 := by
  have e : glue (twoWords a b) = glue [TINCTWORDS.getD a []] ++ (glue [ascii "and"] ++ glue [TINCTWORDS.getD b []]) := by
    rw [← glue_app, ← glue_app]
    rfl
  have z : (glue [ascii "and"]).length = 4 := by decide +kernel
  rw [e, List.length_append, List.length_append, z]
  have := len_tinct ha
  have := len_tinct hb
  omega
theorem len_way {d : Nat} (h : d ≤ 7) : (glue (if d = 6 then [ascii "quarterly"] else if d = 7 then [ascii "gyronny"] else ascii "per" :: withSin WAYWORDS 3 d)).length ≤ 20 := by
  have z : ∀ d : Fin 8, (glue (if d.val = 6 then [ascii "quarterly"] else if d.val = 7 then [ascii "gyronny"] else ascii "per" :: withSin WAYWORDS 3 d.val)).length ≤ 20 := by decide +kernel
  exact z ⟨d, by omega⟩
theorem len_vary {v n : Nat} (h : v ≤ 6) (hn : n ≤ 24) : (glue (withSin VARYWORDS 3 v ++ [ascii "of", decimal n])).length ≤ 30 := by
  have z : ∀ v : Fin 7, ∀ n : Fin 25, (glue (withSin VARYWORDS 3 v.val ++ [ascii "of", decimal n.val])).length ≤ 30 := by decide +kernel
  exact z ⟨v, by omega⟩ ⟨n, by omega⟩
theorem len_field {f : Field} (h : WfField f) : (glue (fieldWords f)).length ≤ 80 := by
  cases f with
  | plain t => exact Nat.le_trans (len_tinct h) (by decide)
  | parted d l a b =>
    obtain ⟨w1, w2, w3, w4, _⟩ := h
    have e : glue (fieldWords (.parted d l a b)) = glue (if d = 6 then [ascii "quarterly"] else if d = 7 then [ascii "gyronny"] else ascii "per" :: withSin WAYWORDS 3 d) ++ (glue (lineWords l) ++ glue (twoWords a b)) := by
      rw [← glue_app, ← glue_app]
      rfl
    rw [e, List.length_append, List.length_append]
    have := len_way w1
    have := len_line w2
    have := len_twoW w3 w4
    omega
  | varied v n l a b =>
    obtain ⟨w1, w2, w3, w4, w5, _⟩ := h
    have e : glue (fieldWords (.varied v n l a b)) = glue (withSin VARYWORDS 3 v ++ [ascii "of", decimal n]) ++ (glue (lineWords l) ++ glue (twoWords a b)) := by
      rw [← glue_app, ← glue_app]
      simp [fieldWords]
    rw [e, List.length_append, List.length_append]
    have := len_vary w1 w2.2
    have := len_line w3
    have := len_twoW w4 w5
    omega
theorem len_fill {b : Field} {f : Fill} (h : WfFill b f) : (glue (fillWords f)).length ≤ 80 := by
  cases f with
  | solid g => exact len_field h
  | counter =>
    have z : (glue (fillWords .counter)).length ≤ 80 := by decide +kernel
    exact z
theorem len_ord {o : Nat} (h : o ≤ 12) : (glue (ascii "a" :: withSin ORDWORDS 5 o)).length ≤ 30 := by
  have z : ∀ o : Fin 13, (glue (ascii "a" :: withSin ORDWORDS 5 o.val)).length ≤ 30 := by decide +kernel
  exact z ⟨o, by omega⟩
theorem len_man {m : Nat} (h : m ≤ 6) : (glue (mannerWords m)).length ≤ 20 := by
  have z : ∀ m : Fin 7, (glue (mannerWords m.val)).length ≤ 20 := by decide +kernel
  exact z ⟨m, by omega⟩
theorem len_size {s : Nat} (h : s ≤ 4) : (glue (sizeWords s)).length ≤ 10 := by
  have z : ∀ s : Fin 5, (glue (sizeWords s.val)).length ≤ 10 := by decide +kernel
  exact z ⟨s, by omega⟩
theorem len_charge {c n : Nat} (h : c ≤ 15) : (glue [(if n = 1 then CHARGEWORDS else SEVERAL).getD c []]).length ≤ 20 := by
  have z : ∀ c : Fin 16, ∀ t : Bool, (glue [(if t = true then CHARGEWORDS else SEVERAL).getD c.val []]).length ≤ 20 := by decide +kernel
  have y := z ⟨c, by omega⟩ (decide (n = 1))
  simp only [decide_eq_true_eq] at y
  exact y
theorem len_count {n : Nat} (h : n ≤ 10) (b : Bool) : (glue [if n = 1 then (if b = true then ascii "an" else ascii "a") else COUNTS.getD (n - 2) []]).length ≤ 10 := by
  have z : ∀ n : Fin 11, ∀ b : Bool, (glue [if n.val = 1 then (if b = true then ascii "an" else ascii "a") else COUNTS.getD (n.val - 2) []]).length ≤ 10 := by decide +kernel
  exact z ⟨n, by omega⟩ b
theorem len_layer {b : Field} {l : Layer} (h : WfLayer b l) : (glue (layerWords l)).length ≤ 150 := by
  rw [layWords_fill, glue_app, List.length_append]
  cases l with
  | ord o l f =>
    obtain ⟨w1, w2, w3⟩ := h
    have e : glue (layWords (.ord o l f)) = glue (ascii "a" :: withSin ORDWORDS 5 o) ++ glue (lineWords l) := by
      rw [← glue_app]
      rfl
    rw [e, List.length_append]
    have := len_ord w1
    have := len_line w2
    have := len_fill w3
    show _ + (glue (fillWords f)).length ≤ 150
    omega
  | group c n m s f =>
    obtain ⟨w1, w2, w3, w4, w5⟩ := h
    have e : glue (layWords (.group c n m s f)) = glue [if n = 1 then (if vowel ((sizeWords s ++ [(if n = 1 then CHARGEWORDS else SEVERAL).getD c []]).headD []) = true then ascii "an" else ascii "a") else COUNTS.getD (n - 2) []] ++ (glue (sizeWords s) ++ (glue [(if n = 1 then CHARGEWORDS else SEVERAL).getD c []] ++ glue (mannerWords m))) := by
      rw [← glue_app, ← glue_app, ← glue_app]
      unfold layWords
      simp
    rw [e]
    simp only [List.length_append]
    have := len_count w2.2 (vowel ((sizeWords s ++ [(if n = 1 then CHARGEWORDS else SEVERAL).getD c []]).headD []))
    have := len_size w4.2
    have := len_charge (n := n) w1
    have := len_man w3
    have := len_fill w5
    show _ + (glue (fillWords f)).length ≤ 150
    omega
theorem join_flat (s : List UInt8) : ∀ (x : List UInt8) (ys : List (List UInt8)), joinB s (x :: ys) = x ++ ys.flatMap fun y => s ++ y
  | x, [] => by simp [joinB]
  | x, y :: r => by
    show x ++ s ++ joinB s (y :: r) = _
    rw [join_flat s y r]
    simp
theorem print_join (a : Arms) : print a = joinB [44, 32] (spaced (fieldWords a.field) :: a.layers.map fun l => spaced (layerWords l)) := by
  rw [join_flat]
  unfold ShBlazon.print
  rw [List.flatMap_map]
  rfl
end
end Hc

namespace Hc
open PySem PySem.Spec PyProof.Rows L2
open Sh ShMarsh ShBlazon
set_option hygiene false
local macro_rules | `(tactic| walk_at "hp") => `(tactic| first | assumption | exact Src.ob (by assumption) | exact upd_same)
local macro_rules | `(tactic| walk_at "sq") => `(tactic| first | assumption | exact Src.sq (by assumption) | exact SqL.of (by assumption) | exact SqL.of upd_same | exact SqT.of (by assumption) | exact SqT.of upd_same)
local macro_rules | `(tactic| walk_at "cl") => `(tactic| with_reducible first | exact T.c_Bytes | exact T.c_Coat | exact T.c_Arms | exact T.c_Layer)
local macro_rules | `(tactic| walk_at "na") => `(tactic| with_reducible first | exact T.n_Bytes_some | exact T.n_Bytes_at | exact T.n_Coat_kind | exact T.n_Coat_arms | exact T.n_Coat_canton | exact T.n_Coat_marks | exact T.n_Coat_coats | exact T.n_Arms_field | exact T.n_Arms_layers | exact T.n_Layer_kind | exact T.n_Layer_numbers | exact T.n_Layer_fill)
local macro_rules | `(tactic| walk_at "ai") => `(tactic| first | assumption | exact atI_nat (by assumption) | rfl)
local macro_rules | `(tactic| walk_at "rd1") => `(tactic| first
  | refine ⟨_, rfl, ?_⟩
  | refine ⟨rfl, ?_⟩
  | refine ⟨_, _, rfl, rfl, ?_⟩
  | refine ⟨_, _, _, _, _, rfl, (by walk_at "hp"), (by walk_at "cl"), (by walk_at "na"), (by rfl), ?_⟩
  | refine ⟨_, _, _, _, rfl, (by walk_at "hp"), (by walk_at "cl"), (by walk_at "na"), Nat.le_of_ble_eq_true rfl, ?_⟩
  | refine ⟨_, _, _, _, rfl, rfl, (by walk_at "sq"), (by walk_at "ai"), ?_⟩
  | refine ⟨_, _, rfl, (by first | exact Or.inl (by walk_at "sq") | exact Or.inr (by walk_at "sq")), ?_⟩
  | refine ⟨(by walk_at "ar"), ?_⟩)
local macro_rules | `(tactic| walk_at "ar") => `(tactic| first | exact (show CDiv _ _ from ⟨by decide, by decide⟩) | exact (show (0 : Int) < _ from by decide) | exact (show CMul _ _ from .inl ⟨by omega, by omega⟩) | exact (show CMul _ _ from .inr ⟨by omega, by omega⟩))
local macro_rules | `(tactic| walk_at "rd") => `(tactic| repeat walk_at "rd1")
local macro_rules | `(tactic| walk_at "fa") => `(tactic| first | exact ⟨_, rfl, (by omega), rfl⟩ | exact ⟨_, _, rfl, (by omega), rfl⟩ | exact ⟨_, _, _, rfl, (by omega), rfl⟩ | exact ⟨_, _, _, _, rfl, (by omega), rfl⟩ | exact ⟨_, _, _, _, _, rfl, (by omega), rfl⟩)
local macro_rules | `(tactic| walk_at "vr") => `(tactic| first
  | exact v_var (by rfl)
  | exact v_c
  | (apply v_i0 <;> walk_at "vr")
  | (apply v_i <;> first | walk_at "ar" | walk_at "vr")
  | (apply v_neg <;> walk_at "vr")
  | (apply v_eq <;> walk_at "vr")
  | (apply v_eqB <;> walk_at "vr")
  | (apply v_ne <;> walk_at "vr")
  | (apply v_neB <;> walk_at "vr")
  | (apply v_chain (g := fun _ _ => _) (g' := fun _ _ => _) <;> walk_at "vr")
  | (apply v_and <;> walk_at "vr")
  | (apply v_or <;> walk_at "vr")
  | (apply v_not <;> walk_at "vr")
  | (apply v_ifI <;> walk_at "vr")
  | (apply v_ifB <;> walk_at "vr")
  | (apply v_call <;> first | walk_at "fa" | walk_at "vr")
  | (apply v_abs <;> walk_at "vr")
  | (apply v_min <;> walk_at "vr")
  | exact va_nil
  | (apply va_cons <;> walk_at "vr")
  | (apply a_test <;> walk_at "vr")
  | (apply a_B <;> walk_at "vr")
  | (apply a_and <;> walk_at "vr")
  | (apply a_or <;> walk_at "vr")
  | (apply a_not <;> walk_at "vr"))
local macro_rules | `(tactic| walk_at "rs") => `(tactic| first
  | (apply r_ret; walk_at "vr")
  | (apply r_set; walk_at "vr"; walk_at "rs")
  | (apply r_ifI; walk_at "vr"; intro _; walk_at "rs"; intro _; walk_at "rs")
  | (apply r_ifB; walk_at "vr"; intro _; walk_at "rs"; intro _; walk_at "rs"))

section
variable {P : Program} {w : World} {K : PySem.W.Frag} {mg : Str → Option Value} {base : Heap}
def IsW (n : Nat) : Hp → V → List (List UInt8) → Prop := fun H v ws => ∃ D ts, v = .ref D ∧ H D = some (.lst (ts.map tv)) ∧ glue ts = glue ws ∧ ts ≠ [] ∧ ts.length ≤ n
theorem IsW.up {n : Nat} {H H' : Hp} {v : V} {ws : List (List UInt8)} (e : Same H H') (h : IsW n H v ws) : IsW n H' v ws := let ⟨D, ts, h1, h2, h3⟩ := h; ⟨D, ts, h1, e _ _ h2, h3⟩
theorem IsW.put {n : Nat} {H : Hp} {v : V} {ws : List (List UInt8)} {D : Addr} {vs : List V} {o : HO} (hD : H D = some (.lst vs)) (hr : ∀ u ∈ vs, ∃ b, u = .ref b) (h : IsW n H v ws) : IsW n (upd H D o) v ws := by
  obtain ⟨p, ts, rfl, hp, hg, hne, hl⟩ := h
  refine ⟨p, ts, rfl, ?_, hg, hne, hl⟩
  have ne : p ≠ D := fun z => by
    rw [z, hD] at hp
    injection hp with hp
    injection hp with hp
    cases ts with
    | nil => exact hne rfl
    | cons x r =>
      obtain ⟨b, hb⟩ := hr (tv x) (by rw [hp]; simp)
      cases hb
  rw [upd_ne ne]
  exact hp
theorem refsW {n : Nat} {H : Hp} : ∀ {vs : List V} {ys : List (List (List UInt8))}, Paired (IsW n H) vs ys → ∀ u ∈ vs, ∃ b, u = .ref b
  | _, _, .cons h t, u, hu => by
    rcases List.mem_cons.mp hu with e | e
    · obtain ⟨D, ts, h1, _⟩ := h
      exact ⟨D, e.trans h1⟩
    · exact refsW t u e
/-- a comprehension over a list: new lists of words -/
theorem wlist {K : PySem.W.Frag} {te : TE} {tl : TE} {a : Addr} {xs : List V} {ys : List (List (List UInt8))} {j : Nat} {σ : L2.St} {H : Hp} {Q : VK} {n : Nat}
    (htl : ∀ Q' : VK, Q' (.ref a) H → tl σ H Q') (hx : H a = some (.lst xs)) (hn : xs.length = ys.length) (h8 : ys.length ≤ 100)
    (hs : ∀ (i : Nat) (v : V) (ws : List (List UInt8)) (H' : Hp) (Q' : VK), xs[i]? = some v → ys[i]? = some ws → Same H H' → (∀ D H2 ts, Same H' H2 → H2 D = some (.lst (ts.map tv)) → glue ts = glue ws → ts ≠ [] → ts.length ≤ n → Q' (.ref D) H2) → te ((wipe σ [j]).set j (some v)) H' Q')
    (k : ∀ D H' vs, Same H H' → H' D = some (.lst vs) → Paired (IsW n H') vs ys → Q (.ref D) H') : tLc (iList K tl) (gName j) tYes te [j] σ H Q := by
  refine htl _ ⟨a, rfl, ⟨_, SqL.of hx⟩, fun D nD => lc_it walk_list (fun i H' => Same H H' ∧ ∃ vs, H' D = some (.lst vs) ∧ Paired (IsW n H') vs (ys.take i)) ⟨Hc.Same.new (Same.refl H) nD, [], upd_same, .nil⟩ (fun i H' _ p => SqL.of (p.1 _ _ hx)) ?_ ?_⟩
  · rintro i x H1 H' hi ⟨sa, vs, hD, hm⟩ ⟨rfl, hxi⟩
    have hi' : i < ys.length := by omega
    refine ⟨?_, ?_⟩
    · show ((σ.set j none).set j (some x)).set j none = σ.set j none
      simp
    · refine hs i x ys[i] H' _ hxi (List.getElem?_eq_getElem hi') sa fun D2 H2 ts s2 h2 hg hne hl => ?_
      have hD2 := s2 _ _ hD
      have hm2 : Paired (IsW n H2) vs (ys.take i) := Paired.up hm fun _ _ z => IsW.up s2 z
      have hr := refsW hm2
      have hvl : vs.length = (ys.take i).length := hm.length
      refine ⟨vs, hD2, ?_, ?_, vs ++ [.ref D2], upd_same, ?_⟩
      · rw [hvl, List.length_take]
        exact Nat.lt_of_le_of_lt (by omega : _ ≤ 100) (by decide)
      · intro b o z
        rw [upd_ne (ne_of_none z nD)]
        exact s2 _ _ (sa _ _ z)
      · rw [take_more (List.getElem?_eq_getElem hi')]
        exact Paired.snoc (Paired.up hm2 fun _ _ z => IsW.put hD2 hr z) (IsW.put hD2 hr ⟨D2, ts, rfl, h2, hg, hne, hl⟩)
  · rintro H' ⟨sa, vs, hD, hm⟩
    rw [hn, List.take_length] at hm
    exact k D H' vs sa hD hm
/-- a comprehension over a list: new texts -/
theorem slist {K : PySem.W.Frag} {te : TE} {tl : TE} {a : Addr} {xs : List V} {ys : List (List UInt8)} {j : Nat} {σ : L2.St} {H : Hp} {Q : VK}
    (htl : ∀ Q' : VK, Q' (.ref a) H → tl σ H Q') (hx : H a = some (.lst xs)) (hn : xs.length = ys.length) (h8 : ys.length ≤ 100)
    (hs : ∀ (i : Nat) (v : V) (b : List UInt8) (H' : Hp) (Q' : VK), xs[i]? = some v → ys[i]? = some b → Same H H' → (∀ H2, Same H' H2 → Q' (tv b) H2) → te ((wipe σ [j]).set j (some v)) H' Q')
    (k : ∀ D H', Same H H' → H' D = some (.lst (ys.map tv)) → Q (.ref D) H') : tLc (iList K tl) (gName j) tYes te [j] σ H Q := by
  refine htl _ ⟨a, rfl, ⟨_, SqL.of hx⟩, fun D nD => lc_it walk_list (fun i H' => Same H H' ∧ H' D = some (.lst ((ys.take i).map tv))) ⟨Hc.Same.new (Same.refl H) nD, upd_same⟩ (fun i H' _ p => SqL.of (p.1 _ _ hx)) ?_ ?_⟩
  · rintro i x H1 H' hi ⟨sa, hD⟩ ⟨rfl, hxi⟩
    have hi' : i < ys.length := by omega
    refine ⟨?_, ?_⟩
    · show ((σ.set j none).set j (some x)).set j none = σ.set j none
      simp
    · refine hs i x ys[i] H' _ hxi (List.getElem?_eq_getElem hi') sa fun H2 s2 => ?_
      refine ⟨_, s2 _ _ hD, ?_, ?_, ?_⟩
      · rw [List.length_map, List.length_take]
        exact Nat.lt_of_le_of_lt (by omega : _ ≤ 100) (by decide)
      · intro b o z
        rw [upd_ne (ne_of_none z nD)]
        exact s2 _ _ (sa _ _ z)
      · rw [upd_same, take_more (List.getElem?_eq_getElem hi'), List.map_append]
        rfl
  · rintro H' ⟨sa, hD⟩
    rw [hn, List.take_length] at hD
    exact k D H' sa hD
theorem txs (ts : List (List UInt8)) : (ts.map tx).map V.str = ts.map tv := by
  rw [List.map_map]
  rfl
theorem tx_lens (ts : List (List UInt8)) : ((ts.map tx).map (·.length)).sum = (ts.map List.length).sum := by
  rw [List.map_map]
  congr 1
  apply List.map_congr_left
  intro a _
  exact tx_len a
theorem sum_le {b : Nat} : ∀ {l : List Nat}, (∀ x ∈ l, x ≤ b) → l.sum ≤ l.length * b
  | [], _ => by simp
  | x :: l, h => by
    have ih := sum_le (fun y hy => h y (List.mem_cons_of_mem _ hy)) (l := l) (b := b)
    have hx := h x (List.mem_cons_self ..)
    rw [List.sum_cons, List.length_cons, Nat.add_mul]
    omega
theorem pgetW {α : Type} {F : V → α → Prop} : ∀ {xs : List V} {ys : List α} {i : Nat} {v : V}, Paired F xs ys → xs[i]? = some v → ∃ m, ys[i]? = some m ∧ F v m
  | _, _, 0, v, .cons h _, e => ⟨_, rfl, by cases e; exact h⟩
  | _, _, i + 1, v, .cons _ t, e => by
    obtain ⟨m, h1, h2⟩ := pgetW (i := i) t (by simpa using e)
    exact ⟨m, by simpa using h1, h2⟩
theorem layerWords_ne (l : Layer) : layerWords l ≠ [] := by
  cases l <;> simp [layerWords]
theorem glue_ne {ts ws : List (List UInt8)} (h : glue ts = glue ws) (hn : ts ≠ []) : ws ≠ [] := fun z => by
  rw [z] at h
  cases ts with
  | nil => exact hn rfl
  | cons x r => cases h
def spBlazon (K : PySem.W.Frag) : Sp := fun vs H Q _ => ∃ (v : V) (a : Arms), vs = [v] ∧ IsArms K H v a ∧ WfArms a ∧ ∀ H', Same H H' → Q (tv (print a)) H'
theorem ok_blazon_of (T : Txt w K mg) (u_field_words : Cal P w K mg base CX0 2 "field_words" p_field_words spFieldW) (u_layer_words : Cal P w K mg base CX0 3 "layer_words" p_layer_words (spLayerW K)) : Cal P w K mg base CX0 4 "blazon_of" p_blazon_of (spBlazon K) := by
  refine T.d_blazon_of.cal sc_blazon_of (fun vs H Q E h => by obtain ⟨_, _, rfl, _⟩ := h; rfl) ?_
  intro cdv A outer s0 H vs Q E hr h
  have nd := sc_blazon_of.nd
  have po := poX (CX := CX0) (P := P) (w := w) (K := K) (mg := mg) (base := base) (N := n_blazon_of) (q := "blazon_of") (sc := defScope s_blazon_of) (f := He.ga K "blazon_of") (cdv := cdv) (A := A) (outer := outer) (s := s0) (H := H) (E := E)
  have h_field_words : Room (2) _ := hr.mono (by omega)
  have h_layer_words : Room (3) _ := hr.mono (by omega)
  refine ⟨_, (pss_cons (ps_set (i := 1) nd rfl (Or.inl rfl) (pe_op op_cat (pe_lst (pa_cons (pe_cal u_field_words (h_field_words) (p0X (E := E0)) (pa_cons (pe_fld (pv 0) rfl) pa_nil)) pa_nil)) (pe_lc (own := [("layer", 2)]) (g := gName 2) (tt := tYes) rfl nd (pi_list (pe_fld (pv 0) rfl)) (blkOk_by (own := [("layer", 2)]) (N := n_blazon_of) (sc := defScope s_blazon_of) (by decide +kernel)) (fun _ _ _ _ _ => pg_name (i := 2) nd rfl (Or.inl rfl)) (fun _ _ _ _ _ => pts_nil) (fun _ _ _ _ _ => (pe_cal u_layer_words (h_layer_words) (p0X (E := E0)) (pa_cons (pv 2) pa_nil))))))
      (pss_one (ps_ret (pe_join pe_str (pe_lc (own := [("piece", 3)]) (g := gName 3) (tt := tYes) rfl nd (pi_list (pv 1)) (blkOk_by (own := [("piece", 3)]) (N := n_blazon_of) (sc := defScope s_blazon_of) (by decide +kernel)) (fun _ _ _ _ _ => pg_name (i := 3) nd rfl (Or.inl rfl)) (fun _ _ _ _ _ => pts_nil) (fun _ _ _ _ _ => (pe_joinK (K := K) rfl pe_str (pv 3)))))))), ?_⟩
  try dsimp only [cxOf]
  clear h_layer_words h_field_words po nd
  obtain ⟨v, a, rfl, ⟨x, dx, l, fv, vs, rfl, hx, hf, hl, hls⟩, wf, k⟩ := h
  obtain ⟨wf1, wf2, wf3⟩ := wf
  walk_at "rd"
  refine ⟨(fv, a.field), rfl, ⟨hf, wf1⟩, fun D0 H0 ts0 s0' h0 hg0 hne0 hl0 => ?_⟩
  refine ⟨by show 1 ≤ sizeLine; decide, fun D1 n1 => ?_⟩
  generalize hH1 : upd H0 D1 _ = H1
  have s01 : Same H0 H1 := by rw [← hH1]; exact Hc.Same.new (Same.refl H0) n1
  have s1 : Same H H1 := fun b o z => s01 _ _ (s0' _ _ z)
  have h1 : H1 D1 = some (.lst [.ref D0]) := by rw [← hH1, upd_same]
  have h01 := s01 _ _ h0
  have hx1 := s1 _ _ hx
  have hl1 := s1 _ _ hl
  have hls1 : Paired (IsLayer K H1) vs a.layers := Paired.up hls fun _ _ z => IsLayer.up s1 z
  refine wlist (K := K) (n := 40) (a := l) (xs := vs) (ys := a.layers.map layerWords) (j := 2) (fun Q' q => ⟨_, rfl, x, _, dx, _, _, rfl, hx1, T.c_Arms, T.n_Arms_layers, rfl, q⟩) hl1 (by rw [List.length_map]; exact hls.length) (by rw [List.length_map]; omega) (fun i u ws H' Q' hu hws sa q => ?_) fun D2 H2 us s2 h2 hus => ?_
  · obtain ⟨L, hL, isL⟩ := pgetW hls1 hu
    rw [List.getElem?_map, hL] at hws
    injection hws with hws
    subst hws
    refine ⟨_, rfl, (u, L, a.field), rfl, ⟨IsLayer.up sa isL, wf3 L (List.mem_of_getElem? hL)⟩, fun D3 H3 ts s3 h3 hg hne hl => q D3 H3 ts s3 h3 hg (hne.resolve_right (layerWords_ne L)) hl⟩
  have hul : us.length = a.layers.length := by
    have z := hus.length
    rw [List.length_map] at z
    exact z
  refine cat_two (s2 _ _ h1) h2 ?_ fun D3 n3 => ?_
  · rw [hul]
    exact Nat.le_trans (by simp only [List.length_cons, List.length_nil]; omega : _ ≤ 10) (by decide)
  generalize hH3 : upd H2 D3 _ = H3
  have s3 : Same H2 H3 := by rw [← hH3]; exact Hc.Same.new (Same.refl H2) n3
  have h3 : H3 D3 = some (.lst (.ref D0 :: us)) := by rw [← hH3, upd_same]; rfl
  have hp3 : Paired (IsW 40 H3) (.ref D0 :: us) (fieldWords a.field :: a.layers.map layerWords) := .cons ⟨D0, ts0, rfl, s3 _ _ (s2 _ _ h01), hg0, hne0.resolve_right (by cases a.field <;> simp [fieldWords, twoWords]), by omega⟩ (Paired.up hus fun _ _ z => IsW.up s3 z)
  have hall : ∀ ws ∈ fieldWords a.field :: a.layers.map layerWords, (glue ws).length ≤ 150 := fun ws hw => by
    rcases List.mem_cons.mp hw with e | e
    · rw [e]
      exact Nat.le_trans (len_field wf1) (by decide)
    · obtain ⟨L, hL, e⟩ := List.mem_map.mp e
      rw [← e]
      exact len_layer (wf3 L hL)
  have ep : joinB [44, 32] ((fieldWords a.field :: a.layers.map layerWords).map spaced) = print a := by
    rw [print_join, List.map_cons, List.map_map]
    rfl
  have hlen : (fieldWords a.field :: a.layers.map layerWords).length ≤ 9 := by
    rw [List.length_cons, List.length_map]
    omega
  generalize fieldWords a.field :: a.layers.map layerWords = W at *
  refine ⟨⟨_, rfl⟩, ?_⟩
  refine slist (K := K) (a := D3) (xs := .ref D0 :: us) (ys := W.map spaced) (j := 3) (fun Q' q => ⟨_, rfl, q⟩) h3 (by rw [List.length_map]; exact hp3.length) (by rw [List.length_map]; omega) (fun i u b H' Q' hu hb sa q => ?_) fun D4 H4 s4 h4 => ?_
  · obtain ⟨ws, hws, hW⟩ := pgetW hp3 hu
    obtain ⟨p, ts, rfl, hp, hg, hne, hl⟩ := IsW.up sa hW
    rw [List.getElem?_map, hws] at hb
    injection hb with hb
    have e : Txt.join (Str.ofString " ") (ts.map tx) = tx b := by
      rw [show Str.ofString " " = tx [32] from rfl, tx_join, spaced_of_glue hg hne (glue_ne hg hne), hb]
    refine ⟨⟨_, rfl⟩, _, rfl, Str.ofString " ", p, ts.map tx, rfl, rfl, .inl (by rw [txs]; exact SqL.of hp), ?_, ?_⟩
    · rw [tx_lens, List.length_map, show (Str.ofString " ").length = 1 from rfl, Nat.mul_one, glue_sum, hg]
      exact Nat.le_trans (hall ws (List.mem_of_getElem? hws)) (by decide)
    · rw [e]
      exact q H' (Same.refl H')
  · have e : Txt.join (Str.ofString ", ") ((W.map spaced).map tx) = tx (print a) := by
      rw [show Str.ofString ", " = tx [44, 32] from rfl, tx_join, ep]
    refine ⟨Str.ofString ", ", D4, (W.map spaced).map tx, rfl, rfl, .inl (by rw [txs]; exact SqL.of h4), ?_, ?_⟩
    · rw [tx_lens, List.length_map, List.length_map, show (Str.ofString ", ").length = 2 from rfl]
      have z : ((W.map spaced).map List.length).sum ≤ ((W.map spaced).map List.length).length * 150 := sum_le fun y hy => by
        obtain ⟨b, hb, rfl⟩ := List.mem_map.mp hy
        obtain ⟨ws, hw, rfl⟩ := List.mem_map.mp hb
        exact Nat.le_trans (spaced_len ws) (hall ws hw)
      rw [List.length_map, List.length_map] at z
      have z2 := Nat.mul_le_mul_right 150 hlen
      omega
    · rw [e]
      exact k _ fun b o z => s4 _ _ (s3 _ _ (s2 _ _ (s1 _ _ z)))
end
end Hc

namespace Hc
open PySem PySem.Spec PyProof.Rows L2
open Sh ShMarsh ShBlazon
set_option hygiene false
local macro_rules | `(tactic| walk_at "hp") => `(tactic| first | assumption | exact Src.ob (by assumption) | exact upd_same)
local macro_rules | `(tactic| walk_at "sq") => `(tactic| first | assumption | exact Src.sq (by assumption) | exact SqL.of (by assumption) | exact SqL.of upd_same | exact SqT.of (by assumption) | exact SqT.of upd_same)
local macro_rules | `(tactic| walk_at "cl") => `(tactic| with_reducible first | exact T.c_Bytes | exact T.c_Coat | exact T.c_Arms | exact T.c_Layer)
local macro_rules | `(tactic| walk_at "na") => `(tactic| with_reducible first | exact T.n_Bytes_some | exact T.n_Bytes_at | exact T.n_Coat_kind | exact T.n_Coat_arms | exact T.n_Coat_canton | exact T.n_Coat_marks | exact T.n_Coat_coats | exact T.n_Arms_field | exact T.n_Arms_layers | exact T.n_Layer_kind | exact T.n_Layer_numbers | exact T.n_Layer_fill)
local macro_rules | `(tactic| walk_at "ai") => `(tactic| first | assumption | exact atI_nat (by assumption) | rfl)
local macro_rules | `(tactic| walk_at "rd1") => `(tactic| first
  | refine ⟨_, rfl, ?_⟩
  | refine ⟨rfl, ?_⟩
  | refine ⟨_, _, rfl, rfl, ?_⟩
  | refine ⟨_, _, _, _, _, rfl, (by walk_at "hp"), (by walk_at "cl"), (by walk_at "na"), (by rfl), ?_⟩
  | refine ⟨_, _, _, _, rfl, (by walk_at "hp"), (by walk_at "cl"), (by walk_at "na"), Nat.le_of_ble_eq_true rfl, ?_⟩
  | refine ⟨_, _, _, _, rfl, rfl, (by walk_at "sq"), (by walk_at "ai"), ?_⟩
  | refine ⟨_, _, rfl, (by first | exact Or.inl (by walk_at "sq") | exact Or.inr (by walk_at "sq")), ?_⟩
  | refine ⟨(by walk_at "ar"), ?_⟩)
local macro_rules | `(tactic| walk_at "ar") => `(tactic| first | exact (show CDiv _ _ from ⟨by decide, by decide⟩) | exact (show (0 : Int) < _ from by decide) | exact (show CMul _ _ from .inl ⟨by omega, by omega⟩) | exact (show CMul _ _ from .inr ⟨by omega, by omega⟩))
local macro_rules | `(tactic| walk_at "rd") => `(tactic| repeat walk_at "rd1")
local macro_rules | `(tactic| walk_at "fa") => `(tactic| first | exact ⟨_, rfl, (by omega), rfl⟩ | exact ⟨_, _, rfl, (by omega), rfl⟩ | exact ⟨_, _, _, rfl, (by omega), rfl⟩ | exact ⟨_, _, _, _, rfl, (by omega), rfl⟩ | exact ⟨_, _, _, _, _, rfl, (by omega), rfl⟩)
local macro_rules | `(tactic| walk_at "vr") => `(tactic| first
  | exact v_var (by rfl)
  | exact v_c
  | (apply v_i0 <;> walk_at "vr")
  | (apply v_i <;> first | walk_at "ar" | walk_at "vr")
  | (apply v_neg <;> walk_at "vr")
  | (apply v_eq <;> walk_at "vr")
  | (apply v_eqB <;> walk_at "vr")
  | (apply v_ne <;> walk_at "vr")
  | (apply v_neB <;> walk_at "vr")
  | (apply v_chain (g := fun _ _ => _) (g' := fun _ _ => _) <;> walk_at "vr")
  | (apply v_and <;> walk_at "vr")
  | (apply v_or <;> walk_at "vr")
  | (apply v_not <;> walk_at "vr")
  | (apply v_ifI <;> walk_at "vr")
  | (apply v_ifB <;> walk_at "vr")
  | (apply v_call <;> first | walk_at "fa" | walk_at "vr")
  | (apply v_abs <;> walk_at "vr")
  | (apply v_min <;> walk_at "vr")
  | exact va_nil
  | (apply va_cons <;> walk_at "vr")
  | (apply a_test <;> walk_at "vr")
  | (apply a_B <;> walk_at "vr")
  | (apply a_and <;> walk_at "vr")
  | (apply a_or <;> walk_at "vr")
  | (apply a_not <;> walk_at "vr"))
local macro_rules | `(tactic| walk_at "rs") => `(tactic| first
  | (apply r_ret; walk_at "vr")
  | (apply r_set; walk_at "vr"; walk_at "rs")
  | (apply r_ifI; walk_at "vr"; intro _; walk_at "rs"; intro _; walk_at "rs")
  | (apply r_ifB; walk_at "vr"; intro _; walk_at "rs"; intro _; walk_at "rs"))

section
variable {P : Program} {w : World} {K : PySem.W.Frag} {mg : Str → Option Value} {base : Heap}
theorem print_len {a : Arms} (h : WfArms a) : (print a).length ≤ 1500 := by
  obtain ⟨wf1, wf2, wf3⟩ := h
  rw [print_join]
  refine Nat.le_trans (joinB_len _ _) ?_
  have z : ((spaced (fieldWords a.field) :: a.layers.map fun l => spaced (layerWords l)).map List.length).sum ≤ ((spaced (fieldWords a.field) :: a.layers.map fun l => spaced (layerWords l)).map List.length).length * 150 := sum_le fun y hy => by
    obtain ⟨b, hb, rfl⟩ := List.mem_map.mp hy
    rcases List.mem_cons.mp hb with e | e
    · rw [e]
      exact Nat.le_trans (spaced_len _) (Nat.le_trans (len_field wf1) (by decide))
    · obtain ⟨L, hL, e⟩ := List.mem_map.mp e
      rw [← e]
      exact Nat.le_trans (spaced_len _) (len_layer (wf3 L hL))
  rw [List.length_map] at z
  simp only [List.length_cons, List.length_map, List.length_nil] at z ⊢
  omega
theorem num3_len {n : Nat} (h : n < 256) : (number3 n).length ≤ 3 := by
  have z : ∀ n : Fin 256, (number3 n.val).length ≤ 3 := by decide +kernel
  exact z ⟨n, h⟩
theorem addS {a b : List UInt8} {H : Hp} {Q : VK} (h : a.length + b.length ≤ 16777216) (k : Q (tv (a ++ b)) H) : ∃ i j, tv a = V.str i ∧ tv b = V.str j ∧ i.length + j.length ≤ sizeLine ∧ Q (.str (i ++ j)) H :=
  ⟨tx a, tx b, rfl, rfl, by rw [tx_len, tx_len]; exact h, by rw [tx_add]; exact k⟩
def cantW : Option Arms → List UInt8
  | some a => ascii " augmented (" ++ (print a ++ ascii ")")
  | none => []
def markS (m : List (Nat × Nat)) : List UInt8 := if m.isEmpty = true then [] else ascii " marked"
def markF (m : List (Nat × Nat)) : List UInt8 := m.flatMap fun (x : Nat × Nat) => 32 :: markWords x
theorem words_eq (m : Marked) : m.words = (((ascii "(" ++ print m.arms) ++ ascii ")") ++ cantW m.canton) ++ markS m.marks ++ markF m.marks := by
  unfold Marked.words markS markF cantW
  cases h : m.marks with
  | nil => cases m.canton <;> simp
  | cons x l => cases m.canton <;> simp
theorem marks_dp {K : PySem.W.Frag} {H : Hp} : ∀ {ms : List V} {l : List (Nat × Nat)}, Paired (IsMark H) ms l → DpAll K H ms (l.map fun x : Nat × Nat => PyData.tuple [.int (x.1 : Int), .int (x.2 : Int)])
  | _, _, .nil => .nil
  | _, _, .cons h t => by
    obtain ⟨p, rfl, hp⟩ := h
    exact .cons (.tup (SqT.of hp) (.cons (.int _) (.cons (.int _) .nil))) (marks_dp t)
theorem marks_lay : ∀ l : List (Nat × Nat), PyData.canLayAll0 (l.map fun x : Nat × Nat => PyData.tuple [.int (x.1 : Int), .int (x.2 : Int)]) = true ∧ PyData.depthAll (l.map fun x : Nat × Nat => PyData.tuple [.int (x.1 : Int), .int (x.2 : Int)]) ≤ 1
  | [] => ⟨by simp [PyData.canLayAll0], by simp [PyData.depthAll]⟩
  | x :: l => by
    obtain ⟨h1, h2⟩ := marks_lay l
    refine ⟨by simp [PyData.canLayAll0, PyData.canLay0, h1], ?_⟩
    simp [PyData.depthAll, PyData.depth]
    omega
theorem marks_shaped (l : List (Nat × Nat)) : SeqAt.shaped (.list (l.map fun x : Nat × Nat => PyData.tuple [.int (x.1 : Int), .int (x.2 : Int)])) = true := by
  obtain ⟨h1, h2⟩ := marks_lay l
  unfold SeqAt.shaped
  rw [Bool.and_eq_true]
  refine ⟨by simp only [PyData.canLay0, h1], decide_eq_true ?_⟩
  simp only [PyData.depth]
  omega
theorem markF_len : ∀ {l : List (Nat × Nat)}, (∀ x ∈ l, x.1 ≤ 127 ∧ 1 ≤ x.2 ∧ x.2 ≤ 255) → (markF l).length ≤ 8 * l.length
  | [], _ => Nat.le_refl _
  | x :: l, h => by
    have ih := markF_len (fun y hy => h y (List.mem_cons_of_mem _ hy)) (l := l)
    have hx := h x (List.mem_cons_self ..)
    have n1 := num3_len (n := x.1) (by omega)
    have n2 := num3_len (n := x.2) (by omega)
    show ((32 :: (number3 x.1 ++ 46 :: number3 x.2)) ++ markF l).length ≤ _
    simp only [List.length_append, List.length_cons]
    omega
theorem markF_snoc (l : List (Nat × Nat)) (x : Nat × Nat) : markF (l ++ [x]) = markF l ++ (32 :: markWords x) := by
  unfold markF
  rw [List.flatMap_append]
  simp
def spMarkW (K : PySem.W.Frag) : Sp := fun vs H Q _ => ∃ (v : V) (m : Marked), vs = [v] ∧ IsMarked K H v m ∧ WfMarked m ∧ ∀ H', Same H H' → Q (tv m.words) H'
theorem ok_marked_shown (T : Txt w K mg) (u_blazon_of : Cal P w K mg base CX0 4 "blazon_of" p_blazon_of (spBlazon K)) : Cal P w K mg base CX0 5 "marked_shown" p_marked_shown (spMarkW K) := by
  refine T.d_marked_shown.cal sc_marked_shown (fun vs H Q E h => by obtain ⟨_, _, rfl, _⟩ := h; rfl) ?_
  intro cdv A outer s0 H vs Q E hr h
  have nd := sc_marked_shown.nd
  have po := poX (CX := CX0) (P := P) (w := w) (K := K) (mg := mg) (base := base) (N := n_marked_shown) (q := "marked_shown") (sc := defScope s_marked_shown) (f := He.ga K "marked_shown") (cdv := cdv) (A := A) (outer := outer) (s := s0) (H := H) (E := E)
  have h_blazon_of : Room (4) _ := hr.mono (by omega)
  refine ⟨_, (pss_cons (ps_set (i := 1) nd rfl (Or.inl rfl) (pe_op op_add_str (pe_op op_add_str pe_str (pe_cal u_blazon_of (h_blazon_of) (p0X (E := E0)) (pa_cons (pe_fld (pv 0) rfl) pa_nil))) pe_str))
      (Evl.pss_cut (ps_if (pt_cmp (pc_notN (pe_fld (pv 0) rfl))) (pss_one (ps_set (i := 1) nd rfl (Or.inl rfl) (pe_op op_add_str (pe_op op_add_str (pe_op op_add_str (pv 1) pe_str) (pe_cal u_blazon_of (h_blazon_of) (p0X (E := E0)) (pa_cons (pe_fld (pv 0) rfl) pa_nil))) pe_str))) pss_nil)
      (Evl.pss_cut (ps_if (pt_cmpR (op_neD hr.units) (pe_fld (pv 0) rfl) (pe_lst pa_nil) (nomark _)) (pss_one (ps_set (i := 1) nd rfl (Or.inl rfl) (pe_op op_add_str (pv 1) pe_str))) pss_nil)
      (pss_cons (ps_for po rfl (pi_list (pe_fld (pv 0) rfl)) (pg_tup rfl (pgs_cons (pg_name (i := 2) nd rfl (Or.inl rfl)) (pgs_cons (pg_name (i := 3) nd rfl (Or.inl rfl)) pgs_nil)))
      (pss_one (ps_set (i := 1) nd rfl (Or.inl rfl) (pe_op op_add_str (pe_op op_add_str (pe_op op_add_str (pe_op op_add_str (pv 1) pe_str) (pe_callTy call_str_int (by rfl) T.f_str (by decide +kernel) (pa_cons (pv 2) pa_nil))) pe_str) (pe_callTy call_str_int (by rfl) T.f_str (by decide +kernel) (pa_cons (pv 3) pa_nil))))))
      (pss_one (ps_ret (pv 1))))))), ?_⟩
  try dsimp only [cxOf]
  clear h_blazon_of po nd
  obtain ⟨v, m, rfl, ⟨x, dx, ml, cl, av, cv, ms, rfl, hx, ha, hc, hm, hms, hcl⟩, wf, k⟩ := h
  obtain ⟨wf1, wf2, wf3, wf4⟩ := wf
  rw [words_eq] at k
  have pl := print_len wf1
  walk_at "rd"
  refine ⟨av, m.arms, rfl, ha, wf1, fun H1 s1 => ?_⟩
  have lp : (ascii "(").length = 1 := by decide +kernel
  have lq : (ascii ")").length = 1 := by decide +kernel
  have la : (ascii " augmented (").length = 12 := by decide +kernel
  have lm : (ascii " marked").length = 7 := by decide +kernel
  have e1 : Str.ofString "(" = tx (ascii "(") := by decide +kernel
  have e2 : Str.ofString ")" = tx (ascii ")") := by decide +kernel
  have e3 : Str.ofString " augmented (" = tx (ascii " augmented (") := by decide +kernel
  have e4 : Str.ofString " marked" = tx (ascii " marked") := by decide +kernel
  have e5 : Str.ofString " " = tx [32] := by decide +kernel
  have e6 : Str.ofString "." = tx [46] := by decide +kernel
  have big : sizeLine = 16777216 := by decide
  refine ⟨_, _, rfl, rfl, ?_, _, _, rfl, rfl, ?_, ?_⟩
  · rw [e1, tx_len, tx_len]
    omega
  · rw [e1, e2, tx_add, tx_len, tx_len, List.length_append]
    omega
  rw [e1, e2, tx_add, tx_add]
  have b1l : ((ascii "(" ++ print m.arms) ++ ascii ")").length ≤ 1502 := by
    rw [List.length_append, List.length_append]
    omega
  generalize (ascii "(" ++ print m.arms) ++ ascii ")" = b1 at *
  have ccl : (cantW m.canton).length ≤ 1520 := by
    cases hca : m.canton with
    | none => exact Nat.zero_le _
    | some a =>
      have := print_len (wf2 a hca)
      show (ascii " augmented (" ++ (print a ++ ascii ")")).length ≤ 1520
      rw [List.length_append, List.length_append]
      omega
  have hx1 := s1 _ _ hx
  have hm1 := s1 _ _ hm
  have hc1 := IsCant.up s1 hc
  refine ⟨fun σ H' => Same H1 H' ∧ σ = [some (.ref x), some (tv (b1 ++ cantW m.canton)), none, none], ?_, ?_⟩
  · cases hca : m.canton with
    | none =>
      rw [hca] at hc1
      obtain rfl : cv = .non := hc1
      walk_at "rd"
      refine iteB (fun c => ?_) fun c => ?_
      · simp at c
      · refine ⟨Same.refl H1, ?_⟩
        rw [show cantW none = [] from rfl, List.append_nil]
        rfl
    | some a =>
      rw [hca] at hc1
      have wfa := wf2 a hca
      have pl2 := print_len wfa
      obtain ⟨x3, dx3, l3, fv3, vs3, rfl, hx3, hf3⟩ := id hc1
      walk_at "rd"
      refine ⟨by rw [e3, tx_len, tx_len]; omega, ?_⟩
      walk_at "rd"
      refine ⟨_, a, rfl, hc1, wfa, fun H2 s2 => ?_⟩
      refine ⟨_, _, rfl, rfl, ?_, _, _, rfl, rfl, ?_, s2, ?_⟩
      · rw [e3, tx_add, tx_len, tx_len, List.length_append]
        omega
      · rw [e3, tx_add, tx_add, tx_len, tx_len, List.length_append, List.length_append]
        omega
      · rw [e3, tx_add, tx_add, tx_add]
        show [some (V.ref x), some (tv _), none, none] = [some (V.ref x), some (tv (b1 ++ (ascii " augmented (" ++ (print a ++ ascii ")")))), none, none]
        rw [List.append_assoc, List.append_assoc]
  · rintro σ H2 ⟨s2, rfl⟩
    have b2l : (b1 ++ cantW m.canton).length ≤ 3022 := by
      rw [List.length_append]
      omega
    generalize b1 ++ cantW m.canton = b2 at *
    have hx2 := s2 _ _ hx1
    have hm2 := s2 _ _ hm1
    have hms2 : Paired (IsMark H2) ms m.marks := Paired.up hms fun _ _ z => IsTwo.up s2 (IsTwo.up s1 z)
    refine ⟨fun σ H' => Same H2 H' ∧ σ = [some (.ref x), some (tv (b2 ++ markS m.marks)), none, none], ?_, ?_⟩
    ·
      walk_at "rd"
      refine ⟨by show 0 ≤ sizeLine; decide, fun q nq => ?_⟩
      have sq := Hc.Same.new (o := .lst []) (Same.refl H2) nq
      refine ⟨_, _, .lst (SqL.of (sq _ _ hm2)) (marks_dp (Paired.up hms2 fun _ _ z => IsTwo.up sq z)), .lst (SqL.of upd_same) .nil, marks_shaped _, by decide, _, rfl, ?_⟩
      cases hmk : m.marks with
      | nil =>
        have e : PyData.eqv (.list (([] : List (Nat × Nat)).map fun x : Nat × Nat => PyData.tuple [.int (x.1 : Int), .int (x.2 : Int)])) (.list []) = true := by decide
        rw [e]
        refine ⟨sq, ?_⟩
        rw [show markS [] = [] from rfl, List.append_nil]
      | cons y l =>
        have e : PyData.eqv (.list ((y :: l).map fun x : Nat × Nat => PyData.tuple [.int (x.1 : Int), .int (x.2 : Int)])) (.list []) = false := by simp [PyData.eqv, PyData.eqvAll]
        rw [e]
        refine ⟨_, rfl, _, _, rfl, rfl, ?_, sq, ?_⟩
        · rw [e4, tx_len, tx_len]
          omega
        · rw [e4, tx_add]
          rfl
    · rintro σ H3 ⟨s3, rfl⟩
      have hx3 := s3 _ _ hx2
      have hm3 := s3 _ _ hm2
      have b3l : (b2 ++ markS m.marks).length ≤ 3029 := by
        rw [List.length_append]
        have : (markS m.marks).length ≤ 7 := by
          unfold markS
          split
          · exact Nat.zero_le _
          · omega
        omega
      generalize b2 ++ markS m.marks = b3 at *
      walk_at "rd"
      refine ⟨⟨_, SqL.of hm3⟩, ?_⟩
      refine for_it walk_list (fun i σ H' => Same H3 H' ∧ ∃ v2 v3, σ = [some (.ref x), some (tv (b3 ++ markF (m.marks.take i))), v2, v3]) ⟨Same.refl H3, none, none, by rw [List.take_zero, show markF [] = [] from rfl, List.append_nil]⟩ (fun i σ H' _ p => SqL.of (p.1 _ _ hm3)) ?_ ?_
      · rintro i u σ H4 H5 hi ⟨sa, v2, v3, rfl⟩ ⟨rfl, hu⟩
        obtain ⟨xm, hxm, t, rfl, ht⟩ := pgetW (Paired.up hms2 fun _ _ z => IsTwo.up sa (IsTwo.up s3 z)) hu
        have wx := wf4 xm (List.mem_of_getElem? hxm)
        have fl := markF_len (l := m.marks.take i) fun y hy => wf4 y (List.mem_of_mem_take hy)
        have tl : (m.marks.take i).length ≤ 60 := by
          rw [List.length_take]
          omega
        rw [take_more hxm, markF_snoc]
        generalize markF (m.marks.take i) = fm at *
        have n1 := num3_len (n := xm.1) (by omega)
        have n2 := num3_len (n := xm.2) (by omega)
        have d1 := dec3 xm.1 (by omega)
        have d2 := dec3 xm.2 (by omega)
        refine ⟨t, _, rfl, SqT.of ht, rfl, _, _, rfl, _, _, rfl, rfl, ?_⟩
        refine ⟨_, rfl, _, _, rfl, rfl, ?_, _, rfl, _, rfl, log3 xm.1 (by omega), _, _, rfl, rfl, ?_, _, _, rfl, rfl, ?_, _, rfl, _, rfl, log3 xm.2 (by omega), _, _, rfl, rfl, ?_, sa, some (iv xm.1), some (iv xm.2), ?_⟩
        · simp only [e5, tx_len, List.length_append, List.length_cons, List.length_nil, big]
          omega
        · simp only [e5, d1, tx_add, tx_len, List.length_append, List.length_cons, List.length_nil, big]
          omega
        · simp only [e5, d1, e6, tx_add, tx_len, List.length_append, List.length_cons, List.length_nil, big]
          omega
        · simp only [e5, d1, e6, d2, tx_add, tx_len, List.length_append, List.length_cons, List.length_nil, big]
          omega
        · simp only [e5, d1, e6, d2, tx_add]
          show [some (V.ref x), some (tv _), some (iv xm.1), some (iv xm.2)] = [some (V.ref x), some (tv (b3 ++ (fm ++ 32 :: (number3 xm.1 ++ (46 :: number3 xm.2))))), some (iv xm.1), some (iv xm.2)]
          simp only [List.append_assoc, List.cons_append, List.nil_append]
      · rintro σ H4 ⟨sa, v2, v3, rfl⟩
        have hl : ms.length = m.marks.length := hms.length
        rw [hl, List.take_length]
        exact ⟨_, rfl, k H4 (fun b o z => sa _ _ (s3 _ _ (s2 _ _ (s1 _ _ z))))⟩
end
end Hc

namespace Hc
open PySem PySem.Spec PyProof.Rows L2
open Sh ShMarsh ShBlazon
set_option hygiene false
local macro_rules | `(tactic| walk_at "hp") => `(tactic| first | assumption | exact Src.ob (by assumption) | exact upd_same)
local macro_rules | `(tactic| walk_at "sq") => `(tactic| first | assumption | exact Src.sq (by assumption) | exact SqL.of (by assumption) | exact SqL.of upd_same | exact SqT.of (by assumption) | exact SqT.of upd_same)
local macro_rules | `(tactic| walk_at "cl") => `(tactic| with_reducible first | exact T.c_Bytes | exact T.c_Coat | exact T.c_Arms | exact T.c_Layer)
local macro_rules | `(tactic| walk_at "na") => `(tactic| with_reducible first | exact T.n_Bytes_some | exact T.n_Bytes_at | exact T.n_Coat_kind | exact T.n_Coat_arms | exact T.n_Coat_canton | exact T.n_Coat_marks | exact T.n_Coat_coats | exact T.n_Arms_field | exact T.n_Arms_layers | exact T.n_Layer_kind | exact T.n_Layer_numbers | exact T.n_Layer_fill)
local macro_rules | `(tactic| walk_at "ai") => `(tactic| first | assumption | exact atI_nat (by assumption) | rfl)
local macro_rules | `(tactic| walk_at "rd1") => `(tactic| first
  | refine ⟨_, rfl, ?_⟩
  | refine ⟨rfl, ?_⟩
  | refine ⟨_, _, rfl, rfl, ?_⟩
  | refine ⟨_, _, _, _, _, rfl, (by walk_at "hp"), (by walk_at "cl"), (by walk_at "na"), (by rfl), ?_⟩
  | refine ⟨_, _, _, _, rfl, (by walk_at "hp"), (by walk_at "cl"), (by walk_at "na"), Nat.le_of_ble_eq_true rfl, ?_⟩
  | refine ⟨_, _, _, _, rfl, rfl, (by walk_at "sq"), (by walk_at "ai"), ?_⟩
  | refine ⟨_, _, rfl, (by first | exact Or.inl (by walk_at "sq") | exact Or.inr (by walk_at "sq")), ?_⟩
  | refine ⟨(by walk_at "ar"), ?_⟩)
local macro_rules | `(tactic| walk_at "ar") => `(tactic| first | exact (show CDiv _ _ from ⟨by decide, by decide⟩) | exact (show (0 : Int) < _ from by decide) | exact (show CMul _ _ from .inl ⟨by omega, by omega⟩) | exact (show CMul _ _ from .inr ⟨by omega, by omega⟩))
local macro_rules | `(tactic| walk_at "rd") => `(tactic| repeat walk_at "rd1")
local macro_rules | `(tactic| walk_at "fa") => `(tactic| first | exact ⟨_, rfl, (by omega), rfl⟩ | exact ⟨_, _, rfl, (by omega), rfl⟩ | exact ⟨_, _, _, rfl, (by omega), rfl⟩ | exact ⟨_, _, _, _, rfl, (by omega), rfl⟩ | exact ⟨_, _, _, _, _, rfl, (by omega), rfl⟩)
local macro_rules | `(tactic| walk_at "vr") => `(tactic| first
  | exact v_var (by rfl)
  | exact v_c
  | (apply v_i0 <;> walk_at "vr")
  | (apply v_i <;> first | walk_at "ar" | walk_at "vr")
  | (apply v_neg <;> walk_at "vr")
  | (apply v_eq <;> walk_at "vr")
  | (apply v_eqB <;> walk_at "vr")
  | (apply v_ne <;> walk_at "vr")
  | (apply v_neB <;> walk_at "vr")
  | (apply v_chain (g := fun _ _ => _) (g' := fun _ _ => _) <;> walk_at "vr")
  | (apply v_and <;> walk_at "vr")
  | (apply v_or <;> walk_at "vr")
  | (apply v_not <;> walk_at "vr")
  | (apply v_ifI <;> walk_at "vr")
  | (apply v_ifB <;> walk_at "vr")
  | (apply v_call <;> first | walk_at "fa" | walk_at "vr")
  | (apply v_abs <;> walk_at "vr")
  | (apply v_min <;> walk_at "vr")
  | exact va_nil
  | (apply va_cons <;> walk_at "vr")
  | (apply a_test <;> walk_at "vr")
  | (apply a_B <;> walk_at "vr")
  | (apply a_and <;> walk_at "vr")
  | (apply a_or <;> walk_at "vr")
  | (apply a_not <;> walk_at "vr"))
local macro_rules | `(tactic| walk_at "rs") => `(tactic| first
  | (apply r_ret; walk_at "vr")
  | (apply r_set; walk_at "vr"; walk_at "rs")
  | (apply r_ifI; walk_at "vr"; intro _; walk_at "rs"; intro _; walk_at "rs")
  | (apply r_ifB; walk_at "vr"; intro _; walk_at "rs"; intro _; walk_at "rs"))

section
variable {P : Program} {w : World} {K : PySem.W.Frag} {mg : Str → Option Value} {base : Heap}
def kindW (n : Nat) : List UInt8 := if n = 1 then ascii "quarterly" else if n = 2 then ascii "impaled" else ascii "pretence"
theorem all_join : ∀ l : List Coat, allWords l = joinB [59, 32] (l.map Coat.words)
  | [] => by simp [allWords, joinB]
  | [x] => by simp [allWords, joinB]
  | x :: y :: r => by
    have ih := all_join (y :: r)
    rw [allWords, ih]
    have e : ascii "; " = [59, 32] := by decide +kernel
    rw [if_neg (by simp), e]
    show _ = x.words ++ [59, 32] ++ joinB [59, 32] ((y :: r).map Coat.words)
    simp
theorem coat_words {c : Coat} (h : kindN c ≠ 0) : c.words = ((kindW (kindN c) ++ ascii " [") ++ joinB [59, 32] ((subs c).map Coat.words)) ++ ascii "]" := by
  have e1 : ascii "quarterly [" = ascii "quarterly" ++ ascii " [" := by decide +kernel
  have e2 : ascii "impaled [" = ascii "impaled" ++ ascii " [" := by decide +kernel
  have e3 : ascii "pretence [" = ascii "pretence" ++ ascii " [" := by decide +kernel
  have e4 : ascii "; " = [59, 32] := by decide +kernel
  cases c with
  | one m => exact absurd rfl h
  | quarters l =>
    rw [Coat.words, e1, all_join]
    show _ = ((ascii "quarterly" ++ ascii " [") ++ joinB [59, 32] (l.map Coat.words)) ++ ascii "]"
    simp only [List.append_assoc]
  | impaled a b =>
    rw [Coat.words, e2, e4]
    show _ = ((ascii "impaled" ++ ascii " [") ++ (a.words ++ [59, 32] ++ b.words)) ++ ascii "]"
    simp only [List.append_assoc]
  | pretence a b =>
    rw [Coat.words, e3, e4]
    show _ = ((ascii "pretence" ++ ascii " [") ++ (a.words ++ [59, 32] ++ b.words)) ++ ascii "]"
    simp only [List.append_assoc]
theorem kindW_len (n : Nat) : (kindW n).length ≤ 9 := by
  have z1 : (ascii "quarterly").length ≤ 9 := by decide +kernel
  have z2 : (ascii "impaled").length ≤ 9 := by decide +kernel
  have z3 : (ascii "pretence").length ≤ 9 := by decide +kernel
  unfold kindW
  split
  · exact z1
  · split
    · exact z2
    · exact z3
theorem marked_len {m : Marked} (h : WfMarked m) : m.words.length ≤ 4000 := by
  obtain ⟨wf1, wf2, wf3, wf4⟩ := h
  rw [words_eq]
  have p1 := print_len wf1
  have lp : (ascii "(").length = 1 := by decide +kernel
  have lq : (ascii ")").length = 1 := by decide +kernel
  have la : (ascii " augmented (").length = 12 := by decide +kernel
  have lm : (ascii " marked").length = 7 := by decide +kernel
  have p2 : (cantW m.canton).length ≤ 1520 := by
    cases hca : m.canton with
    | none => exact Nat.zero_le _
    | some a =>
      have := print_len (wf2 a hca)
      show (ascii " augmented (" ++ (print a ++ ascii ")")).length ≤ 1520
      rw [List.length_append, List.length_append]
      omega
  have p3 : (markS m.marks).length ≤ 7 := by
    unfold markS
    split
    · exact Nat.zero_le _
    · omega
  have p4 := markF_len wf4
  simp only [List.length_append]
  omega
theorem words_len : ∀ (d : Nat) (c : Coat), WfCoat c → c.deep ≤ d + 1 → c.words.length ≤ 4000 * 10 ^ d
  | d, c, wf, hd => by
    have h10 : 1 ≤ 10 ^ d := Nat.one_le_pow _ _ (by decide)
    by_cases hk : kindN c = 0
    · obtain ⟨m, rfl⟩ := kind_0 hk
      unfold WfCoat at wf
      rw [Coat.words]
      have := marked_len wf
      exact Nat.le_trans this (Nat.le_mul_of_pos_right _ h10)
    · cases d with
      | zero =>
        have := deep_subs hk
        have hl : 1 ≤ (subs c).length := by
          cases q : subs c with
          | nil => exact absurd q (wf_ne wf hk)
          | cons _ _ => simp
        have h0 := deep_get (List.getElem?_eq_getElem (show 0 < (subs c).length from hl))
        have hp := deep_pos (subs c)[0]
        omega
      | succ d =>
        rw [coat_words hk]
        have hs : (((subs c).map Coat.words).map List.length).sum ≤ (((subs c).map Coat.words).map List.length).length * (4000 * 10 ^ d) := sum_le fun y hy => by
          obtain ⟨b, hb, rfl⟩ := List.mem_map.mp hy
          obtain ⟨c', hc', rfl⟩ := List.mem_map.mp hb
          obtain ⟨i, hi⟩ := List.mem_iff_getElem?.mp hc'
          exact words_len d c' ((wf_subs wf).1.get hi) (by have := deep_get hi; have := deep_subs hk; omega)
        have hj := joinB_len [59, 32] ((subs c).map Coat.words)
        have l9 := (wf_subs wf).2
        have kw := kindW_len (kindN c)
        have lb : (ascii " [").length = 2 := by decide +kernel
        have lc : (ascii "]").length = 1 := by decide +kernel
        simp only [List.length_append, List.length_map, List.length_cons, List.length_nil] at hs hj ⊢
        have hX : 1 ≤ 10 ^ d := Nat.one_le_pow _ _ (by decide)
        have e10 : 10 ^ (d + 1) = 10 * 10 ^ d := by rw [Nat.pow_succ, Nat.mul_comm]
        rw [e10]
        generalize 10 ^ d = X at *
        have hm : (subs c).length * (4000 * X) ≤ 9 * (4000 * X) := Nat.mul_le_mul_right _ l9
        omega
def spShow (K : PySem.W.Frag) (d : Nat) : Sp := fun vs H Q _ => ∃ (v : V) (c : Coat), vs = [v] ∧ IsCoat K H v c ∧ WfCoat c ∧ c.deep ≤ d ∧ c.deep ≤ 4 ∧ ∀ H', Same H H' → Q (tv c.words) H'
theorem spShow_never {K : PySem.W.Frag} : ∀ vs H Q E, spShow K 0 vs H Q E → False := fun vs H Q E ⟨v, c, _, _, _, h, _⟩ => by
  have := deep_pos c
  omega
theorem step_coat_shown (T : Txt w K mg) (d : Nat) (u_marked_shown : Cal P w K mg base CX0 5 "marked_shown" p_marked_shown (spMarkW K)) (u_coat_shown : Cal P w K mg base CX0 (5 + d) "coat_shown" p_coat_shown (spShow K d)) : Cal P w K mg base CX0 (5 + d + 1) "coat_shown" p_coat_shown (spShow K (d + 1)) := by
  refine T.d_coat_shown.cal sc_coat_shown (fun vs H Q E h => by obtain ⟨_, _, rfl, _⟩ := h; rfl) ?_
  intro cdv A outer s0 H vs Q E hr h
  have nd := sc_coat_shown.nd
  have po := poX (CX := CX0) (P := P) (w := w) (K := K) (mg := mg) (base := base) (N := n_coat_shown) (q := "coat_shown") (sc := defScope s_coat_shown) (f := He.ga K "coat_shown") (cdv := cdv) (A := A) (outer := outer) (s := s0) (H := H) (E := E)
  have h_marked_shown : Room (5) _ := hr.mono (by omega)
  have h_coat_shown : Room (5+d) _ := hr.mono (by omega)
  refine ⟨_, (pss_cons (ps_if (pt_cmpR op_eq (pe_fld (pv 0) rfl) (pe_gi T.i_MARKED) (nomark _)) (pss_one (ps_ret (pe_cal u_marked_shown (h_marked_shown) (p0X (E := E0)) (pa_cons (pv 0) pa_nil)))) pss_nil)
      (pss_cons (ps_set (i := 1) nd rfl (Or.inl rfl) (pe_lst (pa_cons pe_str (pa_cons pe_str (pa_cons pe_str (pa_cons pe_str pa_nil))))))
      (pss_one (ps_ret (pe_op op_add_str (pe_op op_add_str (pe_op op_add_str (pe_ix ix_list (pv 1) (pe_fld (pv 0) rfl) (fun _ _ => rfl)) pe_str) (pe_join pe_str (pe_lc (own := [("one", 2)]) (g := gName 2) (tt := tYes) rfl nd (pi_list (pe_fld (pv 0) rfl)) (blkOk_by (own := [("one", 2)]) (N := n_coat_shown) (sc := defScope s_coat_shown) (by decide +kernel)) (fun _ _ _ _ _ => pg_name (i := 2) nd rfl (Or.inl rfl)) (fun _ _ _ _ _ => pts_nil) (fun _ _ _ _ _ => (pe_cal u_coat_shown (h_coat_shown) (p0X (E := E0)) (pa_cons (pv 2) pa_nil)))))) pe_str))))), ?_⟩
  try dsimp only [cxOf]
  clear h_coat_shown h_marked_shown po nd
  obtain ⟨v, c, rfl, is, wf, hd, hd4, k⟩ := h
  obtain ⟨x, dx, ml, cl, av, cv, ms, vs, rfl, hx, hm, hc, hv⟩ := coat_open is
  walk_at "rd"
  refine iteB (fun c1 => ?_) fun c1 => ?_
  · have c1' : kindN c = 0 := by
      have z := of_decide_eq_true c1
      have z' : V.int (kindN c : Int) = V.int 0 := z
      injection z' with z'
      omega
    obtain ⟨m, rfl⟩ := kind_0 c1'
    unfold IsCoat at is
    unfold WfCoat at wf
    rw [Coat.words] at k
    walk_at "rd"
    exact ⟨_, m, rfl, is, wf, k⟩
  · have hk : kindN c ≠ 0 := fun z => by
      rw [z] at c1
      simp [iv] at c1
    show tSeq _ _ _ _ _
    refine ⟨by show 4 ≤ sizeLine; decide, fun D1 n1 => ?_⟩
    generalize hH1 : upd H D1 _ = H1
    have s1 : Same H H1 := by rw [← hH1]; exact Hc.Same.new (Same.refl H) n1
    have h1 : H1 D1 = some (.lst ([[], ascii "quarterly", ascii "impaled", ascii "pretence"].map tv)) := by rw [← hH1, upd_same]; rfl
    have hx1 := s1 _ _ hx
    have hc1 := s1 _ _ hc
    have hv1 := IsCoats.up s1 hv
    have ek : atI ([[], ascii "quarterly", ascii "impaled", ascii "pretence"].map tv) (kindN c : Int) = some (tv (kindW (kindN c))) := by
      cases c with
      | one m => exact absurd rfl hk
      | quarters l => exact atI_nat (j := 1) rfl
      | impaled a b => exact atI_nat (j := 2) rfl
      | pretence a b => exact atI_nat (j := 3) rfl
    have e1 : Str.ofString " [" = tx (ascii " [") := by decide +kernel
    have e2 : Str.ofString "]" = tx (ascii "]") := by decide +kernel
    have e3 : Str.ofString "; " = tx [59, 32] := by decide +kernel
    have big : sizeLine = 16777216 := by decide
    have kw := kindW_len (kindN c)
    have lb : (ascii " [").length = 2 := by decide +kernel
    have lc : (ascii "]").length = 1 := by decide +kernel
    have l9 := (wf_subs wf).2
    have hs : (((subs c).map Coat.words).map List.length).sum ≤ (((subs c).map Coat.words).map List.length).length * (4000 * 10 ^ 2) := sum_le fun y hy => by
      obtain ⟨b, hb, rfl⟩ := List.mem_map.mp hy
      obtain ⟨c', hc', rfl⟩ := List.mem_map.mp hb
      obtain ⟨i, hi⟩ := List.mem_iff_getElem?.mp hc'
      exact words_len 2 c' ((wf_subs wf).1.get hi) (by have := deep_get hi; have := deep_subs hk; omega)
    have hj := joinB_len [59, 32] ((subs c).map Coat.words)
    have ew := coat_words hk
    rw [List.length_map, List.length_map] at hs
    rw [List.length_map] at hj
    have hm9 : (subs c).length * (4000 * 10 ^ 2) ≤ 9 * (4000 * 10 ^ 2) := Nat.mul_le_mul_right _ l9
    have l2 : ([59, 32] : List UInt8).length = 2 := rfl
    rw [l2] at hj
    dsimp only [gName, tRet]
    refine ⟨_, rfl, _, rfl, x, _, dx, _, _, rfl, hx1, T.c_Coat, T.n_Coat_kind, rfl, _, _, _, _, rfl, rfl, SqL.of h1, ek, _, _, rfl, rfl, ?_, ⟨_, rfl⟩, ?_⟩
    · rw [e1, tx_len, tx_len]
      omega
    · refine slist (K := K) (a := cl) (xs := vs) (ys := (subs c).map Coat.words) (j := 2) (fun Q' q => ⟨_, rfl, x, _, dx, _, _, rfl, hx1, T.c_Coat, T.n_Coat_coats, rfl, q⟩) hc1 (by rw [List.length_map]; exact hv.len) (by rw [List.length_map]; omega) (fun i u b H' Q' hu hb sa q => ?_) fun D4 H4 s4 h4 => ?_
      · obtain ⟨c', hc', is'⟩ := hv1.get hu
        rw [List.getElem?_map, hc'] at hb
        injection hb with hb
        subst hb
        refine ⟨_, rfl, u, c', rfl, IsCoat.up sa is', (wf_subs wf).1.get hc', ?_, ?_, q⟩
        · have := deep_get hc'
          have := deep_subs hk
          omega
        · have := deep_get hc'
          have := deep_subs hk
          omega
      · refine ⟨Str.ofString "; ", D4, ((subs c).map Coat.words).map tx, rfl, rfl, .inl (by rw [txs]; exact SqL.of h4), ?_, _, _, rfl, rfl, ?_, _, _, rfl, rfl, ?_, ?_⟩
        · rw [tx_lens, List.length_map, List.length_map, e3, tx_len]
          show _ + _ * 2 ≤ _
          omega
        · rw [e1, e3, tx_join, tx_add, tx_len, tx_len, List.length_append]
          omega
        · rw [e1, e2, e3, tx_join, tx_add, tx_add, tx_len, tx_len, List.length_append, List.length_append]
          omega
        · rw [e1, e2, e3, tx_join, tx_add, tx_add, tx_add]
          have kk := k H4 (fun b o z => s4 _ _ (s1 _ _ z))
          rw [ew] at kk
          exact kk
theorem all_coat_shown (T : Txt w K mg) (u_marked_shown : Cal P w K mg base CX0 5 "marked_shown" p_marked_shown (spMarkW K)) : ∀ d : Nat, Cal P w K mg base CX0 (5 + d) "coat_shown" p_coat_shown (spShow K d)
  | 0 => by
    obtain ⟨⟨fd, F, b⟩, g⟩ := T.d_coat_shown
    exact ⟨⟨fd, ⟨fun _ _ _ _ h => (spShow_never _ _ _ _ h).elim, fun _ _ _ _ _ _ _ _ _ _ _ _ _ h => (spShow_never _ _ _ _ h).elim⟩, b⟩, g, F.kp⟩
  | d + 1 => step_coat_shown T d u_marked_shown (all_coat_shown T u_marked_shown d)
end
end Hc

namespace Hc
open PySem PySem.Spec PyProof.Rows L2
open Sh ShMarsh
set_option hygiene false
local macro_rules | `(tactic| walk_at "hp") => `(tactic| first | assumption | exact Src.ob (by assumption) | exact upd_same)
local macro_rules | `(tactic| walk_at "sq") => `(tactic| first | assumption | exact Src.sq (by assumption) | exact SqL.of (by assumption) | exact SqL.of upd_same | exact SqT.of (by assumption) | exact SqT.of upd_same)
local macro_rules | `(tactic| walk_at "cl") => `(tactic| with_reducible first | exact T.c_Bytes | exact T.c_Coat | exact T.c_Arms | exact T.c_Layer)
local macro_rules | `(tactic| walk_at "na") => `(tactic| with_reducible first | exact T.n_Bytes_some | exact T.n_Bytes_at | exact T.n_Coat_kind | exact T.n_Coat_arms | exact T.n_Coat_canton | exact T.n_Coat_marks | exact T.n_Coat_coats | exact T.n_Arms_field | exact T.n_Arms_layers | exact T.n_Layer_kind | exact T.n_Layer_numbers | exact T.n_Layer_fill)
local macro_rules | `(tactic| walk_at "ai") => `(tactic| first | assumption | exact atI_nat (by assumption) | rfl)
local macro_rules | `(tactic| walk_at "rd1") => `(tactic| first
  | refine ⟨_, rfl, ?_⟩
  | refine ⟨rfl, ?_⟩
  | refine ⟨_, _, rfl, rfl, ?_⟩
  | refine ⟨_, _, _, _, _, rfl, (by walk_at "hp"), (by walk_at "cl"), (by walk_at "na"), (by rfl), ?_⟩
  | refine ⟨_, _, _, _, rfl, (by walk_at "hp"), (by walk_at "cl"), (by walk_at "na"), Nat.le_of_ble_eq_true rfl, ?_⟩
  | refine ⟨_, _, _, _, rfl, rfl, (by walk_at "sq"), (by walk_at "ai"), ?_⟩
  | refine ⟨_, _, rfl, (by first | exact Or.inl (by walk_at "sq") | exact Or.inr (by walk_at "sq")), ?_⟩
  | refine ⟨(by walk_at "ar"), ?_⟩)
local macro_rules | `(tactic| walk_at "ar") => `(tactic| first | exact (show CDiv _ _ from ⟨by decide, by decide⟩) | exact (show (0 : Int) < _ from by decide) | exact (show CMul _ _ from .inl ⟨by omega, by omega⟩) | exact (show CMul _ _ from .inr ⟨by omega, by omega⟩))
local macro_rules | `(tactic| walk_at "rd") => `(tactic| repeat walk_at "rd1")
local macro_rules | `(tactic| walk_at "fa") => `(tactic| first | exact ⟨_, rfl, (by omega), rfl⟩ | exact ⟨_, _, rfl, (by omega), rfl⟩ | exact ⟨_, _, _, rfl, (by omega), rfl⟩ | exact ⟨_, _, _, _, rfl, (by omega), rfl⟩ | exact ⟨_, _, _, _, _, rfl, (by omega), rfl⟩)
local macro_rules | `(tactic| walk_at "vr") => `(tactic| first
  | exact v_var (by rfl)
  | exact v_c
  | (apply v_i0 <;> walk_at "vr")
  | (apply v_i <;> first | walk_at "ar" | walk_at "vr")
  | (apply v_neg <;> walk_at "vr")
  | (apply v_eq <;> walk_at "vr")
  | (apply v_eqB <;> walk_at "vr")
  | (apply v_ne <;> walk_at "vr")
  | (apply v_neB <;> walk_at "vr")
  | (apply v_chain (g := fun _ _ => _) (g' := fun _ _ => _) <;> walk_at "vr")
  | (apply v_and <;> walk_at "vr")
  | (apply v_or <;> walk_at "vr")
  | (apply v_not <;> walk_at "vr")
  | (apply v_ifI <;> walk_at "vr")
  | (apply v_ifB <;> walk_at "vr")
  | (apply v_call <;> first | walk_at "fa" | walk_at "vr")
  | (apply v_abs <;> walk_at "vr")
  | (apply v_min <;> walk_at "vr")
  | exact va_nil
  | (apply va_cons <;> walk_at "vr")
  | (apply a_test <;> walk_at "vr")
  | (apply a_B <;> walk_at "vr")
  | (apply a_and <;> walk_at "vr")
  | (apply a_or <;> walk_at "vr")
  | (apply a_not <;> walk_at "vr"))
local macro_rules | `(tactic| walk_at "rs") => `(tactic| first
  | (apply r_ret; walk_at "vr")
  | (apply r_set; walk_at "vr"; walk_at "rs")
  | (apply r_ifI; walk_at "vr"; intro _; walk_at "rs"; intro _; walk_at "rs")
  | (apply r_ifB; walk_at "vr"; intro _; walk_at "rs"; intro _; walk_at "rs"))

section
variable {P : Program} {w : World} {K : PySem.W.Frag} {mg : Str → Option Value} {base : Heap}
theorem main_words (T : Txt w K mg) {fd : FuncData} (FD : FunD K "words" "words" (defArgs s_words) (defBody s_words) (defScope s_words) [] [] (He.ga K "words") fd) (u_coat_of_bytes : Cal P w K mg base (L2.CX P w) 20 "coat_of_bytes" p_coat_of_bytes (spCoatOf K)) (u_coat_shown : Cal P w K mg base CX0 9 "coat_shown" p_coat_shown (spShow K 4)) : FnOk P w K mg base CX0 21 (He.ga K "words") fd p_words (spMain K PyWqaqbh.words) := by
  refine FD.ok sc_words (fun vs H Q E h => by obtain ⟨_, _, rfl, _⟩ := h; rfl) ?_
  intro cdv A outer s0 H vs Q E hr h
  have nd := sc_words.nd
  have po := poX (CX := CX0) (P := P) (w := w) (K := K) (mg := mg) (base := base) (N := n_words) (q := "words") (sc := defScope s_words) (f := He.ga K "words") (cdv := cdv) (A := A) (outer := outer) (s := s0) (H := H) (E := E)
  have h_coat_of_bytes : Room (20) _ := hr.mono (by omega)
  have h_coat_shown : Room (9) _ := hr.mono (by omega)
  refine ⟨_, (pss_cons (ps_try_as (i := 2) (Wout := fun _ _ _ _ => False) rfl rfl nd rfl rfl ⟨rfl, by decide, Or.inl T.g_NoCoat⟩ takes0
        (fun W pn xe tk _ => (pss_one (ps_set (i := 1) nd rfl (Or.inl rfl) (pe_calS u_coat_of_bytes (h_coat_of_bytes) (fun σ => passAt tk σ) (by exact (pa_cons (pv 0) pa_nil))))))
        (fun a oe cls d pn hz hf => (pss_one (ps_ret (pe_lst (pa_cons (pe_gi T.i_NO_COAT) (pa_cons (pe_xf T.x_NoCoat.xf (T.x_NoCoat.no _ (by simp)) hz hf (pv 2)) pa_nil)))))))
      (pss_cons (ps_set (i := 3) nd rfl (Or.inl rfl) (pe_cal u_coat_shown (h_coat_shown) (p0X (E := E0)) (pa_cons (pv 1) pa_nil)))
      (pss_one (ps_ret (pe_op op_cat (pe_lst (pa_cons (pe_callB call_len_str (by rfl) T.f_len PySem.boot_len (pa_cons (pv 3) pa_nil)) pa_nil)) (pe_lc (own := [("sign", 4)]) (g := gName 4) (tt := tYes) rfl nd (pi_str (pv 3)) (blkOk_by (own := [("sign", 4)]) (N := n_words) (sc := defScope s_words) (by decide +kernel)) (fun _ _ _ _ _ => pg_name (i := 4) nd rfl (Or.inl rfl)) (fun _ _ _ _ _ => pts_nil) (fun _ _ _ _ _ => (pe_callB call_ord (by rfl) T.f_ord (by decide +kernel) (pa_cons (pv 4) pa_nil))))))))), ?_⟩
  try dsimp only [cxOf]
  clear h_coat_shown h_coat_of_bytes po nd
  obtain ⟨c, ns, rfl, hi, hb, hS, kQ⟩ := h
  rw [toB_bv hi] at hS
  rw [due_words hi, show ShCoats.answer (.words (toB ns)) = ShCoats.ofCoat (toB ns) fun c => ShCoats.gives c.words from rfl] at kQ
  walk_at "rd"
  refine ⟨c, toB ns, rfl, hS, by rw [toB_len]; exact hb, fun e he d H1 sa hd => ⟨true, T.x_NoCoat.me, fun _ a na => ?_, fun q => Bool.noConfusion q⟩, fun co he v H1 sa is => ?_⟩
  · refine ⟨_, rfl, rfl, rfl, d, _, _, rfl, hd, rfl, ?_⟩
    refine ⟨by show 2 ≤ sizeLine; decide, fun p hp => kQ p _ ?_⟩
    rw [told_bad he]
    exact upd_same
  · have wf := wf_read he
    rw [told_ok he] at kQ
    have bl := words_len 3 co wf.1 wf.2
    walk_at "rd"
    refine ⟨v, co, rfl, is, wf.1, wf.2, wf.2, fun H2 sa2 => ?_⟩
    have kQ2 : ∀ p H', H' p = some (.lst (((co.words.length : Nat) : Int) :: (co.words.map fun b => (b.toNat : Int)) |>.map V.int)) → Q (.ref p) H' := fun p H' h => kQ p H' h
    generalize co.words = b at *
    have big : sizeLine = 16777216 := by decide
    have b7 : b.length ≤ 4000000 := bl
    refine ⟨_, rfl, tx b, rfl, by rw [tx_len]; omega, ?_⟩
    rw [tx_len]
    refine ⟨by show 1 ≤ sizeLine; decide, fun D1 n1 => ?_⟩
    generalize hH3 : upd H2 D1 _ = H3
    have h3 : H3 D1 = some (.lst [.int (b.length : Int)]) := by rw [← hH3, upd_same]
    refine ⟨_, rfl, tx b, rfl, fun D nD => lc_it walk_str (fun i H' => Same H3 H' ∧ H' D = some (.lst (((b.take i).map fun u => (u.toNat : Int)).map V.int))) ⟨Hc.Same.new (Same.refl H3) nD, upd_same⟩ (fun _ _ _ _ => trivial) ?_ ?_⟩
    · rintro i x H4 H5 hi' ⟨s4, hD⟩ ⟨rfl, ch, hc, rfl⟩
      have hi2 : i < b.length := by
        have z : i < (tx b).length := hi'
        rw [tx_len] at z
        exact z
      have ech : ch = b[i].toNat := by
        have z : (b.map UInt8.toNat).toArray[i]? = some ch := hc
        simp [hi2] at z
        exact z.symm
      subst ech
      refine ⟨rfl, ?_⟩
      refine ⟨_, rfl, _, rfl, rfl, ?_⟩
      refine ⟨_, hD, ?_, ?_, ?_⟩
      · rw [List.length_map, List.length_map, List.length_take]
        omega
      · intro b' o z
        rw [upd_ne (ne_of_none z nD)]
        exact s4 _ _ z
      · rw [upd_same, take_more (List.getElem?_eq_getElem hi2), List.map_append, List.map_append]
        rfl
    · rintro H4 ⟨s4, hD⟩
      rw [show (tx b).cps.size = b.length from tx_len b, List.take_length] at hD
      refine cat_two (s4 _ _ h3) hD ?_ fun p np => kQ2 p _ ?_
      · rw [List.length_map, List.length_map]
        show 1 + b.length ≤ sizeLine
        omega
      · rw [upd_same]
        rfl
end
end Hc

namespace Hc
open PySem PySem.Spec PyProof.Rows L2
def loose0 : List Str := ["PLAIN", "PARTED", "VARIED", "ORDINARY", "GROUP", "MARKED", "QUARTERLY", "MOST_DEEP", "Layer", "Arms", "Coat", "VOWELS", "TINCTURES", "LINES", "WAYS", "VARIETIES", "ORDINARIES", "CHARGES", "COUNTS", "SIZES", "MANNERS", "SEVERAL", "line_words", "field_words", "group_words", "layer_words", "blazon_of", "MOST_LAYERS", "MOST_MARKS", "NoCoat"]
def loose1 : List Str := ["Bytes", "read_byte", "read_tinctures", "read_field", "read_fill", "read_layer", "read_arms", "read_marked", "read_coat", "coat_of_bytes", "marked_shown", "coat_shown", "NO_COAT"]
def loose : List Str := loose0 ++ loose1
abbrev R : PySem.W.OpenSpec := PySem.Challenge.rw_heraldcoats_s05_words
abbrev qv : Program := PySem.W.view R.prog [48]
abbrev hk : PySem.W.Hook := hookY 5 fa fn tabs exb
def ob (s : PySem.W.SharedT) : AlY := obsYG 5 fa fn tabs exb (HandSHeadRun.getT s)
theorem ob_eq (s : PySem.W.SharedT) : ob s = hk.obs s.abs := obsYG_eq (HandSHeadRun.getT_eq s)
theorem run (w : World) (os : OsState) : (HandSHeadRun.endF (HandSHeadRun.stepQ (HandSHeadRun.denQ HandSHeadRun.tabQ) R.prog w) 5000 R.prog w os).map (fun s => (HandSHeadRun.looksF R.prog (PySem.W.boot_heap w.params) s.abs, HandSHeadRun.seenQ qv loose (importedModules R.prog.main.body) (fun s => PySem.W.xlAt qv [] s && PySem.W.recOk [] s) s.abs, ob s)) = some (true, PySem.W.openGood qv loose, hk.val w) := by
  kernel_rfl
theorem left : PySem.W.LeftO R.prog qv loose (fun s => PySem.W.xlAt qv [] s && PySem.W.recOk [] s) hk.obs hk.val (5000 + 600) true :=
  HandSHeadRun.left_one (M := 5000) (by kernel_rfl) (Nat.ble_eq_true_of_le (by omega)) (fun s => by kernel_rfl) (Nat.ble_eq_true_of_le (by omega)) fun w os => by
    have z := run w os
    have eo : ob = fun s => hk.obs s.abs := funext ob_eq
    rw [eo] at z
    simp only [HandSHeadRun.endQ_eq, HandSHeadRun.seenQ_eq]
    exact z
theorem facts_main {P : Program} {w : World} {K : PySem.W.Frag} {h : Heap} {mg : Str → Option Value} {fa' : Addr} (X : K.In h) (G : h.Ns mainGlobals mg) (hfa : mg ("words" : Str) = some (.ref fa')) (c : He.SaysT fa fn tabs w K) (e : exb K = true) :
    ∃ fd : FuncData, (∀ (s : Shared) (us : List Value), us.length = p_words.length → BindsTo s fd ⟨us, []⟩ (p_words.zip us)) ∧ ∀ base : Heap, FnOk P w K mg base CX0 21 fa' fd p_words (spMain K PyWqaqbh.words) := by
  have T := txt_of X G c e
  obtain ⟨fd, FD⟩ := c.d.def_ 21 (d := dd_words) rfl
  have ea := hfa.symm.trans T.d_words.g
  cases ea
  refine ⟨fd, FunD.bindsA FD fun _ _ _ _ _ _ us hl => match us, hl with | [_], _ => rfl, fun base => ?_⟩
  have m_Bytes := ok_Bytes_init (P := P) (w := w) (base := base) T
  have q_NoCoat := ok_NoCoat_init (P := P) (w := w) (base := base) T
  have u_read_byte := ok_read_byte (P := P) (base := base) T q_NoCoat
  have m_Coat := ok_Coat_init (P := P) (w := w) (base := base) T
  have u_read_tinctures := ok_read_tinctures (P := P) (base := base) T u_read_byte q_NoCoat
  have u_read_field := ok_read_field (P := P) (base := base) T u_read_byte u_read_tinctures
  have m_Arms := ok_Arms_init (P := P) (w := w) (base := base) T
  have u_read_fill := ok_read_fill (P := P) (base := base) T u_read_byte u_read_field
  have m_Layer := ok_Layer_init (P := P) (w := w) (base := base) T
  have u_read_layer := ok_read_layer (P := P) (base := base) T u_read_byte u_read_fill m_Layer
  have u_read_arms := ok_read_arms (P := P) (base := base) T u_read_field m_Arms u_read_byte u_read_layer
  have u_read_marked := ok_read_marked (P := P) (base := base) T m_Coat u_read_arms u_read_byte
  have u_read_coat := all_read_coat T u_read_byte u_read_marked m_Coat 4
  have u_coat_of_bytes := ok_coat_of_bytes (P := P) (base := base) T m_Bytes u_read_coat q_NoCoat
  have u_line_words := ok_line_words (P := P) (base := base) T 
  have u_field_words := ok_field_words (P := P) (base := base) T u_line_words
  have u_group_words := ok_group_words (P := P) (base := base) T 
  have u_layer_words := ok_layer_words (P := P) (base := base) T u_line_words u_group_words u_field_words
  have u_blazon_of := ok_blazon_of (P := P) (base := base) T u_field_words u_layer_words
  have u_marked_shown := ok_marked_shown (P := P) (base := base) T u_blazon_of
  have u_coat_shown := all_coat_shown (P := P) (base := base) T u_marked_shown 4
  exact main_words T FD u_coat_of_bytes u_coat_shown
end Hc
open PySem PySem.W PySem.Calls PyProof.Rows
set_option maxHeartbeats 8000000 in
theorem PySem.Challenge.cw_heraldcoats_s05_words_holds : PySem.Challenge.rw_heraldcoats_s05_words.Holds := by
  w_on
  refine holds_os (r := PySem.Challenge.rw_heraldcoats_s05_words) (q := Hc.qv) (loose := Hc.loose) (XP := XL Hc.qv []) (YP := Hc.hk.says) (kwd := []) Hc.left Hc.hk.of Hc.hk.keeps (fun s z => xl_of s (Bool.and_eq_true_iff.mp z).1) XL.keeps
    (by rfl) (by rfl) (by rfl) (fun s z => recFacts_of (Bool.and_eq_true_iff.mp z).2) os_shapes (by decide +kernel) (by decide +kernel) ⟨rfl, rfl, rfl, rfl, rfl, by decide +kernel⟩ ?hw ?hc
  case hw => exact ⟨[.list []], by decide +kernel, by decide +kernel⟩
  case hc =>
    refine Hc.walk_specE (r := PySem.Challenge.rw_heraldcoats_s05_words) (k := 21) (CX := L2.CX0) (ps := Hc.p_words) (sp := fun K => Hc.spMain K PyWqaqbh.words) (by decide +kernel) rfl rfl ⟨rfl, by decide, by decide⟩ ?F ?S (fun _ _ _ _ z => z)
    case F =>
      rintro w mg fa' h ⟨K, KX, c, e⟩ G hmg
      obtain ⟨fd, hb, hF⟩ := Hc.facts_main (P := PySem.Challenge.rw_heraldcoats_s05_words.prog) KX G hmg c e
      exact ⟨K, KX, fd, hb, fun base _ _ => hF base⟩
    case S =>
      intro K H xs a hO hwi hask hx
      cases hx with
      | cons h1 h2 =>
        cases h2
        cases h1 with
        | lst hs ha =>
          have e := L2.ints_dw a.1 _ ha
          subst e
          have q : ((Codec.inLen 0 2000 a.1 && a.1.all (Codec.inInt 0 255)) && true) = true := hwi
          rw [Bool.and_eq_true, Bool.and_eq_true] at q
          have ql := (Codec.inNat_iff.mp q.1.1).2
          refine ⟨_, a.1, rfl, fun n hn => ?_, by omega, hs, fun p H' hp => .lst (L2.SqL.of hp) (L2.dw_ints _)⟩
          exact Codec.inInt_iff.mp (List.all_eq_true.mp q.1.2 n hn)
#print axioms PySem.Challenge.cw_heraldcoats_s05_words_holds
