import PyProof.Rows.All
import Wide.All
import OpenK.AllK
import Wide.FinOn
import KE.KStateDown
import HandS.ForMost
import HandS.ForExc
import HandS.More
import HandS.Defaults
import HandS.MakeKw
import HandS.MakeKwOnly
import HandS.Property
import HandS.ClsMeth
import HandS.IsInst
import HandS.NoneIn
import HandS.OwnEq
import HandS.Strs
import HandS.DictComp
import HandS.Evl
import HandS.Head0
import HandS.Head1
import HandS.Head2
import HandS.HeadEnd
import HandS.HeadHook1
import HandS.HeadHook2
import PySem.Challenge.RW_throughline_k99_whole_saved_text
import HandS.Nested
import HandS.WideBits
import KE.KIntText
import HandS.Walk
set_option Elab.async false
set_option linter.all false
set_option maxRecDepth 100000
/-! part B0 -/
section
namespace K99
open PySem PySem.Spec PyProof.Rows L2
def top (i : Nat) : Stmt := PySem.Challenge.pw_throughline_k99_whole_saved_text.main.body.getD i (.Pass ⟨0, 0, 0, 0⟩)

section
variable (P : Program) (w : World) (K : PySem.W.Frag) (mg : Str → Option Value) (base : Heap)
/-- a def of the module -/
structure GFn (x : Str) (k : Nat) (ps : List Str) (sp : Sp) : Prop where
  ex : ∃ (f : Addr) (fd : FuncData), FnOk P w K mg base CX0 k f fd ps sp ∧ mg x = some (.ref f) ∧ PySem.W.keepIn K (.ref f) = true ∧ Binds K fd ps []
/-- a def of the module, called with keywords -/
structure GFnK (x : Str) (k : Nat) (ps : List Str) (n : Nat) (ks : List Str) (gV : List V → List V → List V) (sp : Sp) : Prop where
  ex : ∃ (f : Addr) (fd : FuncData) (g : List Value → List Value → List Value), FnOk P w K mg base CX0 k f fd ps sp ∧ mg x = some (.ref f) ∧ PySem.W.keepIn K (.ref f) = true ∧ KBn K fd ps n ks g gV
/-- a method of the class at C; dvs: its defaults that fill up -/
structure MFn (C : Addr) (m : Str) (k : Nat) (ps : List Str) (dvs : List V) (sp : Sp) : Prop where
  ex : ∃ (f : Addr) (fd : FuncData) (ds : List Value), Cls K C ∧ Meth K C m f ∧ FnOk P w K mg base CX0 k f fd ps sp ∧ Binds K fd ps ds ∧ Vals dvs ds
structure MFnK (C : Addr) (m : Str) (k : Nat) (ps : List Str) (n : Nat) (ks : List Str) (gV : List V → List V → List V) (sp : Sp) : Prop where
  ex : ∃ (f : Addr) (fd : FuncData) (g : List Value → List Value → List Value), Cls K C ∧ Meth K C m f ∧ FnOk P w K mg base CX0 k f fd ps sp ∧ KBn K fd ps n ks g gV
/-- making an instance of the class x -/
structure MkC (x : Str) (C : Addr) (k : Nat) (ps : List Str) (dvs : List V) (sp : Sp) : Prop where
  ex : ∃ (f : Addr) (fd : FuncData) (ds : List Value), Mk K C f ∧ FnOk P w K mg base CX0 k f fd ps sp ∧ mg x = some (.ref C) ∧ Binds K fd ps ds ∧ Vals dvs ds
structure MkCK (x : Str) (C : Addr) (k : Nat) (ps : List Str) (n : Nat) (ks : List Str) (gV : List V → List V → List V) (sp : Sp) : Prop where
  ex : ∃ (f : Addr) (fd : FuncData) (g : List Value → List Value → List Value), Mk K C f ∧ FnOk P w K mg base CX0 k f fd ps sp ∧ mg x = some (.ref C) ∧ KBn K fd ps (n + 1) ks g gV
/-- a property of the class at C -/
structure PFn (C : Addr) (f : Str) (k : Nat) (sp : Sp) : Prop where
  ex : ∃ (p g : Addr) (fd : FuncData), Cls K C ∧ PropOf K C f p g ∧ FnOk P w K mg base CX0 k g fd ["self"] sp ∧ Binds K fd ["self"] []
end

section
variable {X : Cx} {k n : Nat} {C : Addr} {ps ks : List Str} {sp : Sp} {dvs : List V} {gV : List V → List V → List V} {x m f : Str} {p pos apos : Pos} {e o : Expr} {es : List Expr} {kws : List Keyword} {ta : TE} {t tk : TA}
theorem pe_fn (F : GFn X.prog X.w X.K X.mg X.base x k ps sp) (hr : Room k X.A) (hg : Gl X x) (ha : PA X (e :: es) t)
    (hdb : (x == ("__debug__" : Str)) = false := by decide) (he : starEach (e :: es) X.env = (false, eval e X.env) :: starEach es X.env := by rfl) (hpl : (backTo pos (starEach es X.env)).any (·.1) = false := by rfl) :
    PE X (.Call (.Name x p) (e :: es) [] pos) (tCall sp [] E0 t) := by
  obtain ⟨f, fd, F1, hm, hk, hb⟩ := F.ex
  exact pe_call F1 hr hg hm hk hb .nil pass0 ha hdb he hpl
theorem pe_fnK (F : GFnK X.prog X.w X.K X.mg X.base x k ps n ks gV sp) (hr : Room k X.A) (hg : Gl X x) (ha : PA X (e :: es) t) (hkw : PK X kws tk)
    (hall : (backToKw pos (keywordEach kws X.env)).all (·.1.isSome) = true := by rfl) (hks : (backToKw pos (keywordEach kws X.env)).filterMap (·.1) = ks := by rfl)
    (hdb : (x == ("__debug__" : Str)) = false := by decide) (he : starEach (e :: es) X.env = (false, eval e X.env) :: starEach es X.env := by rfl)
    (hpl : ((backTo pos (starEach (e :: es) X.env)).any (·.1) || (backToKw pos (keywordEach kws X.env)).any (·.1.isNone)) = false := by rfl) :
    PE X (.Call (.Name x p) (e :: es) kws pos) (tCallN n ks.length sp gV E0 t tk) := by
  obtain ⟨f, fd, g, F1, hm, hk, hb⟩ := F.ex
  exact pe_callN F1 hr hg hm hk hb pass0 ha hkw hall hks hdb he hpl
theorem pe_mt {pl : Sem Bool} (M : MFn X.prog X.w X.K X.mg X.base C m k ps dvs sp) (hr : Room k X.A) (he : PE X o ta) (ha : PA X (e :: es) t)
    (hst : starEach (e :: es) X.env = (false, eval e X.env) :: starEach es X.env := by rfl) (hpl : (backTo pos (starEach es X.env)).any (·.1) = false := by rfl)
    (ht : eval (.Call (.Attribute o m apos) (e :: es) [] pos) X.env = (do
      let ov ← eval o X.env
      standAt apos.atName
      let (f, first) ← holding [ov] (getMethod ov m pl)
      callWith pos f first (backTo pos (starEach (e :: es) X.env)) (backToKw pos (keywordEach [] X.env))) := by rfl) :
    PE X (.Call (.Attribute o m apos) (e :: es) [] pos) (tMeth C m sp dvs E0 ta t) := by
  obtain ⟨f, fd, ds, c, hm, F1, hb, hd⟩ := M.ex
  exact pe_meth he c hm F1 hr hb hd pass0 ha hst hpl ht
theorem pe_mt0 {pl : Sem Bool} (M : MFn X.prog X.w X.K X.mg X.base C m k ps dvs sp) (hr : Room k X.A) (he : PE X o ta)
    (ht : eval (.Call (.Attribute o m apos) [] [] pos) X.env = (do
      let ov ← eval o X.env
      standAt apos.atName
      let (f, first) ← holding [ov] (getMethod ov m pl)
      callWith pos f first (backTo pos (starEach [] X.env)) (backToKw pos (keywordEach [] X.env))) := by rfl) :
    PE X (.Call (.Attribute o m apos) [] [] pos) (tMeth C m sp dvs E0 ta tNil) := by
  obtain ⟨f, fd, ds, c, hm, F1, hb, hd⟩ := M.ex
  exact pe_meth0 he c hm F1 hr hb hd pass0 ht
/-- o.m(e, .., k = v, ..) -/
def tMethK (C : Addr) (m : Str) (n nk : Nat) (sp : Sp) (gV : List V → List V → List V) (ta : TE) (t tk : TA) : TE := fun σ H Q => ta σ H fun x H1 => ∃ a dx fs, x = .ref a ∧ H1 a = some (.ins C dx fs) ∧ fs.lookup m = none ∧
  t σ H1 fun vs H2 => tk σ H2 fun zs H3 => (x :: vs).length = n ∧ zs.length = nk ∧ sp (gV (x :: vs) zs) H3 Q E0
theorem pe_mtK {pl : Sem Bool} (M : MFnK X.prog X.w X.K X.mg X.base C m k ps n ks gV sp) (hr : Room k X.A) (he : PE X o ta) (ha : PA X (e :: es) t) (hkw : PK X kws tk)
    (hall : (backToKw pos (keywordEach kws X.env)).all (·.1.isSome) = true := by rfl) (hks : (backToKw pos (keywordEach kws X.env)).filterMap (·.1) = ks := by rfl)
    (hst : starEach (e :: es) X.env = (false, eval e X.env) :: starEach es X.env := by rfl)
    (hpl : ((backTo pos (starEach (e :: es) X.env)).any (·.1) || (backToKw pos (keywordEach kws X.env)).any (·.1.isNone)) = false := by rfl)
    (ht : eval (.Call (.Attribute o m apos) (e :: es) kws pos) X.env = (do
      let ov ← eval o X.env
      standAt apos.atName
      let (f, first) ← holding [ov] (getMethod ov m pl)
      callWith pos f first (backTo pos (starEach (e :: es) X.env)) (backToKw pos (keywordEach kws X.env))) := by rfl) :
    PE X (.Call (.Attribute o m apos) (e :: es) kws pos) (tMethK C m n ks.length sp gV ta t tk) := by
  obtain ⟨f, fd, g, c, hm, F1, hb⟩ := M.ex
  refine ⟨fun pins s σ H Q I h => ?_⟩
  refine PySem.W.methodCall_KW (pl := pl) (thn (he.run pins s σ H _ I h) fun u s1 ⟨x, H1, I1, rx, a, dx, fs, ex, ea, l, q⟩ => ?_) ht
  subst ex
  obtain rfl : u = Value.ref a := rx
  refine getmeth_ok I1 ea c hm l ?_
  refine PySem.W.callWith_KW (first := [.ref a]) (h₀ := X.base) I.ok.mod.kin hm.kp hall (thn (ha.run pos pins s1 σ H1 _ I1 q) fun us s2 ⟨vs, H2, I2, r, q2⟩ => ?_) hpl hst
  refine thn (hkw.run pos pins s2 σ H2 _ I2 q2) fun ws s3 ⟨zs, H3, I3, rz, l1, l2, q3⟩ => ⟨I3.kIn, ?_⟩
  rw [hks]
  exact run_fnN (us := .ref a :: us) (vs := .ref a :: vs) F1 hr hb pass0 I3 (.cons rfl r) rz l1 l2 q3
theorem pe_mtK0 {pl : Sem Bool} (M : MFnK X.prog X.w X.K X.mg X.base C m k ps n ks gV sp) (hr : Room k X.A) (he : PE X o ta) (hkw : PK X kws tk)
    (hall : (backToKw pos (keywordEach kws X.env)).all (·.1.isSome) = true := by rfl) (hks : (backToKw pos (keywordEach kws X.env)).filterMap (·.1) = ks := by rfl)
    (hpl : ((backTo pos (starEach [] X.env)).any (·.1) || (backToKw pos (keywordEach kws X.env)).any (·.1.isNone)) = false := by rfl)
    (ht : eval (.Call (.Attribute o m apos) [] kws pos) X.env = (do
      let ov ← eval o X.env
      standAt apos.atName
      let (f, first) ← holding [ov] (getMethod ov m pl)
      callWith pos f first (backTo pos (starEach [] X.env)) (backToKw pos (keywordEach kws X.env))) := by rfl) :
    PE X (.Call (.Attribute o m apos) [] kws pos) (tMethK C m n ks.length sp gV ta tNil tk) := by
  obtain ⟨f, fd, g, c, hm, F1, hb⟩ := M.ex
  refine ⟨fun pins s σ H Q I h => ?_⟩
  refine PySem.W.methodCall_KW (pl := pl) (thn (he.run pins s σ H _ I h) fun u s1 ⟨x, H1, I1, rx, a, dx, fs, ex, ea, l, q⟩ => ?_) ht
  subst ex
  obtain rfl : u = Value.ref a := rx
  refine getmeth_ok I1 ea c hm l ?_
  refine PySem.W.callWith_KW0 (first := [.ref a]) (h₀ := X.base) I.ok.mod.kin hm.kp hall ?_ hpl
  refine thn (hkw.run pos pins s1 σ H1 _ I1 q) fun ws s3 ⟨zs, H3, I3, rz, l1, l2, q3⟩ => ⟨I3.kIn, ?_⟩
  rw [hks]
  exact run_fnN (us := [.ref a]) (vs := [.ref a]) F1 hr hb pass0 I3 (.cons rfl .nil) rz l1 l2 q3
theorem pe_mk (M : MkC X.prog X.w X.K X.mg X.base x C k ps dvs sp) (hr : Room (k + 1) X.A) (hg : Gl X x) (ha : PA X (e :: es) t)
    (hdb : (x == ("__debug__" : Str)) = false := by decide) (he : starEach (e :: es) X.env = (false, eval e X.env) :: starEach es X.env := by rfl) (hpl : (backTo pos (starEach es X.env)).any (·.1) = false := by rfl) :
    PE X (.Call (.Name x p) (e :: es) [] pos) (tMake C sp dvs E0 t) := by
  obtain ⟨f, fd, ds, M1, F1, hm, hb, hd⟩ := M.ex
  exact pe_make M1 F1 hr hg hm hb hd pass0 ha hdb he hpl
theorem pe_mkK (M : MkCK X.prog X.w X.K X.mg X.base x C k ps n ks gV sp) (hr : Room (k + 1) X.A) (hg : Gl X x) (ha : PA X (e :: es) t) (hkw : PK X kws tk)
    (hall : (backToKw pos (keywordEach kws X.env)).all (·.1.isSome) = true := by rfl) (hks : (backToKw pos (keywordEach kws X.env)).filterMap (·.1) = ks := by rfl) (hdb : (x == ("__debug__" : Str)) = false := by decide)
    (he : starEach (e :: es) X.env = (false, eval e X.env) :: starEach es X.env := by rfl) (hpl : ((backTo pos (starEach (e :: es) X.env)).any (·.1) || (backToKw pos (keywordEach kws X.env)).any (·.1.isNone)) = false := by rfl) :
    PE X (.Call (.Name x p) (e :: es) kws pos) (tMakeK C n ks.length sp gV E0 t tk) := by
  obtain ⟨f, fd, g, M1, F1, hm, hb⟩ := M.ex
  exact pe_makeK M1 F1 hr hg hm hb pass0 ha hkw hall hks hdb he hpl
theorem pe_mkK0 (M : MkCK X.prog X.w X.K X.mg X.base x C k ps 0 ks gV sp) (hr : Room (k + 1) X.A) (hg : Gl X x) (hkw : PK X kws tk)
    (hall : (backToKw pos (keywordEach kws X.env)).all (·.1.isSome) = true := by rfl) (hks : (backToKw pos (keywordEach kws X.env)).filterMap (·.1) = ks := by rfl) (hdb : (x == ("__debug__" : Str)) = false := by decide)
    (hpl : ((backTo pos (starEach [] X.env)).any (·.1) || (backToKw pos (keywordEach kws X.env)).any (·.1.isNone)) = false := by rfl) :
    PE X (.Call (.Name x p) [] kws pos) (tMakeK C 0 ks.length sp gV E0 tNil tk) := by
  obtain ⟨f, fd, g, M1, F1, hm, hb⟩ := M.ex
  exact pe_makeK0 M1 F1 hr hg hm hb pass0 hkw hall hks hdb hpl
theorem pe_pr (G : PFn X.prog X.w X.K X.mg X.base C f k sp) (hr : Room (k + 1) X.A) (he : PE X e ta) (hab : attributeBase e f X.env (eval e X.env) = eval e X.env) :
    PE X (.Attribute e f pos) (tProp C sp [] E0 ta) := by
  obtain ⟨pp, g, fd, c, hp, F1, hb⟩ := G.ex
  exact pe_prop he c hp F1 hr hb .nil pass0 hab

/-! ### fields of a known class -/
/-- o.f, o of the class at C, whose attributes are told by a record -/
def tGet {R : Type} (C : Addr) (fs : R → List (Str × V)) (get : R → V) (ta : TE) : TE := fun σ H Q => ta σ H fun x H1 => ∃ a dx r, x = .ref a ∧ H1 a = some (.ins C dx (fs r)) ∧ Q (get r) H1
theorem pe_get {R : Type} {fs : R → List (Str × V)} {get : R → V} (c : Cls X.K C) (hn : NoAttr X.K C f) (hl : ∀ r, (fs r).lookup f = some (get r)) (he : PE X e ta) (hb : attributeBase e f X.env (eval e X.env) = eval e X.env := by rfl) :
    PE X (.Attribute e f pos) (tGet C fs get ta) := by
  refine ⟨fun pins s σ H Q I h => ?_⟩
  refine attr_of hb (thn (he.run pins s σ H _ I h) fun u s1 ⟨x, H1, I1, rx, a, dx, r, ex, ea, q⟩ => ?_)
  subst ex
  obtain rfl : u = Value.ref a := rx
  exact getattr_ok I1 ea c hn (hl r) fun u' s2 I2 ru => ⟨get r, H1, I2, ru, q⟩
/-- o.f = value -/
def sPut {R : Type} (C : Addr) (fs : R → List (Str × V)) (set : V → R → R) (ta tv : TE) : TS := fun D σ H => tv σ H fun y H1 => ta σ H1 fun x H2 => ∃ a dx r, x = .ref a ∧ H2 a = some (.ins C dx (fs r)) ∧ D.nx σ (upd H2 a (.ins C dx (fs (set y r))))
theorem ps_put {R : Type} {fs : R → List (Str × V)} {set : V → R → R} {value : Expr} {pos' : Pos} {tv : TE} (c : Cls X.K C) (hn : NoAttr X.K C f) (hp : ∀ y r, putF f y (fs r) = fs (set y r)) (hl : ∀ r, (fs r).length < 1000)
    (ha : PE X o ta) (hv : PE X value tv) (hs : swapsWith value (some (.Attribute o f pos')) pos.line X.env = pure false := by rfl) : PS X (.Assign [.Attribute o f pos'] value pos) (sPut C fs set ta tv) := by
  refine ⟨fun pins s σ H D I h => ?_⟩
  refine plainObj_wpAny_Assign_Attribute (thn (hv.run pins s σ H _ I h) fun u s1 ⟨y, H1, I1, ry, q⟩ => thn (ha.run pins s1 σ H1 _ I1 q) fun ov s2 ⟨x, H2, I2, rx, a, dx, r, ex, ea, q2⟩ => ?_) hs
  subst ex
  obtain rfl : ov = Value.ref a := rx
  exact setattr_ok I2 ea c hn (hl r) ry fun s3 I3 => ⟨σ, _, I3, by rw [hp]; exact q2⟩
/-- o.f op= value -/
def sPutAug {R : Type} (C : Addr) (fs : R → List (Str × V)) (get : R → V) (set : V → R → R) (ta tv : TE) (rd : V → V → Hp → VK → Prop) : TS := fun D σ H => ta σ H fun x H1 => ∃ a dx r, x = .ref a ∧ H1 a = some (.ins C dx (fs r)) ∧
  tv σ H1 fun y H2 => rd (get r) y H2 fun z H3 => ∃ dx' r', H3 a = some (.ins C dx' (fs r')) ∧ D.nx σ (upd H3 a (.ins C dx' (fs (set z r'))))
theorem ps_putaug {R : Type} {fs : R → List (Str × V)} {get : R → V} {set : V → R → R} {value : Expr} {tpos : Pos} {tv : TE} {op : Operator} {rd : V → V → Hp → VK → Prop} (c : Cls X.K C) (hn : NoAttr X.K C f) (hg : ∀ r, (fs r).lookup f = some (get r))
    (hp : ∀ y r, putF f y (fs r) = fs (set y r)) (hl : ∀ r, (fs r).length < 1000) (ha : PE X o ta) (hv : PE X value tv) (hop : InOp X op rd) : PS X (.AugAssign (.Attribute o f tpos) op value pos) (sPutAug C fs get set ta tv rd) := by
  refine ⟨fun pins s σ H D I h => ?_⟩
  refine wpAny_AugAssign_AttributeAny (thn (ha.run pins s σ H _ I h) fun ov s1 ⟨x, H1, I1, rx, a, dx, r, ex, ea, q⟩ => ?_)
  subst ex
  obtain rfl : ov = Value.ref a := rx
  refine getattr_ok I1 ea c hn (hg r) fun u s2 I2 ru => thn (hv.run pins s2 σ H1 _ I2 q) fun w3 s3 ⟨y, H2, I3, ry, q3⟩ => thn (hop pins s3 σ H2 (get r) y u w3 _ I3 ru ry q3) fun w4 s4 ⟨z, H3, I4, rz, dx', r', ea', q4⟩ => ?_
  exact setattr_ok I4 ea' c hn (hl r') rz fun s5 I5 => ⟨σ, _, I5, by rw [hp]; exact q4⟩
/-- self.f = value in an __init__ -/
def sIni (C : Addr) (f : Str) (ta tv : TE) : TS := fun D σ H => tv σ H fun y H1 => ta σ H1 fun x H2 => ∃ a dx fs, x = .ref a ∧ H2 a = some (.ins C dx fs) ∧ fs.length < 1000 ∧ D.nx σ (upd H2 a (.ins C dx (putF f y fs)))
theorem ps_ini {value : Expr} {pos' : Pos} {tv : TE} (c : Cls X.K C) (hn : NoAttr X.K C f) (ha : PE X o ta) (hv : PE X value tv) (hs : swapsWith value (some (.Attribute o f pos')) pos.line X.env = pure false := by rfl) : PS X (.Assign [.Attribute o f pos'] value pos) (sIni C f ta tv) := by
  refine ⟨fun pins s σ H D I h => ?_⟩
  refine plainObj_wpAny_Assign_Attribute (thn (hv.run pins s σ H _ I h) fun u s1 ⟨y, H1, I1, ry, q⟩ => thn (ha.run pins s1 σ H1 _ I1 q) fun ov s2 ⟨x, H2, I2, rx, a, dx, fs, ex, ea, l, q2⟩ => ?_) hs
  subst ex
  obtain rfl : ov = Value.ref a := rx
  exact setattr_ok I2 ea c hn l ry fun s3 I3 => ⟨σ, _, I3, q2⟩
end
end K99
end
/-! part F0 -/
section
namespace K99
open PySem PySem.Spec PyProof.Rows L2 ClX
abbrev s_Piece___init__ : Stmt := inClass (top 2) 0
abbrev s_Piece_stop : Stmt := inClass (top 2) 2
abbrev s_is_due : Stmt := top 4
abbrev s_next_output : Stmt := top 7
abbrev s_next_reset : Stmt := top 8
abbrev s_allowance : Stmt := top 9
abbrev s_spend : Stmt := top 10
abbrev s_send : Stmt := top 11
abbrev s_dress : Stmt := top 12
abbrev s_next_phase : Stmt := top 15
abbrev s_Control___init__ : Stmt := inClass (top 17) 1
abbrev s_RoundTrip___init__ : Stmt := inClass (top 23) 0
abbrev s_RoundTrip_bounded : Stmt := inClass (top 23) 1
abbrev s_Receiver___init__ : Stmt := inClass (top 25) 0
abbrev s_Receiver_ready : Stmt := inClass (top 25) 1
abbrev s_Receiver_end_taken : Stmt := inClass (top 25) 3
abbrev s_Receiver_at_end : Stmt := inClass (top 25) 4
abbrev s_count_inside : Stmt := top 27
abbrev s_first_free : Stmt := top 28
abbrev s_Sender___init__ : Stmt := inClass (top 32) 0
abbrev s_Sender_flight : Stmt := inClass (top 32) 1
abbrev s_Sender_unsent : Stmt := inClass (top 32) 2
abbrev s_Sender_all_done : Stmt := inClass (top 32) 3
abbrev s_Sender_free : Stmt := inClass (top 32) 4
abbrev s_Sender_write : Stmt := inClass (top 32) 6
abbrev s_Sender_finish : Stmt := inClass (top 32) 7
abbrev s_Sender_piece : Stmt := inClass (top 32) 8
abbrev s_Sender_mark_sent : Stmt := inClass (top 32) 10
abbrev s_Sender_pipe : Stmt := inClass (top 32) 11
abbrev s_Sender_next_piece : Stmt := inClass (top 32) 12
abbrev s_Sender__not_sacked : Stmt := inClass (top 32) 16
abbrev s_Sender__loss_end : Stmt := inClass (top 32) 17
abbrev s_make_control : Stmt := top 34
abbrev s_Endpoint___init__ : Stmt := inClass (top 35) 1
abbrev s_Endpoint_has_ended : Stmt := inClass (top 35) 3
abbrev s_Endpoint_needs_answer : Stmt := inClass (top 35) 5
abbrev s_Endpoint_flight : Stmt := inClass (top 35) 6
abbrev s_Endpoint_timeout : Stmt := inClass (top 35) 7
abbrev s_Endpoint_write : Stmt := inClass (top 35) 9
abbrev s_Endpoint_finish : Stmt := inClass (top 35) 10
abbrev s_Endpoint_abort : Stmt := inClass (top 35) 12
abbrev s_Endpoint_output : Stmt := inClass (top 35) 15
abbrev s_Endpoint_close : Stmt := inClass (top 35) 16
abbrev s_Endpoint_settle : Stmt := inClass (top 35) 17
abbrev s_Endpoint_wait : Stmt := inClass (top 35) 18
abbrev s_Endpoint_wind : Stmt := inClass (top 35) 19
abbrev s_CodeReader___init__ : Stmt := inClass (top 50) 0
abbrev s_CodeReader_number : Stmt := inClass (top 50) 2
abbrev s_CodeReader_flag : Stmt := inClass (top 50) 3
abbrev s_CodeReader_maybe : Stmt := inClass (top 50) 4
abbrev s_CodeReader_choice : Stmt := inClass (top 50) 5
abbrev s_CodeReader_many : Stmt := inClass (top 50) 6
abbrev s_CodeReader_pairs : Stmt := inClass (top 50) 7
abbrev s_CodeReader_finish : Stmt := inClass (top 50) 8
abbrev s_write_maybe : Stmt := top 51
abbrev s_write_many : Stmt := top 52
abbrev s_write_pairs : Stmt := top 53
abbrev s_write_sender : Stmt := top 54
abbrev s_read_sender : Stmt := top 55
abbrev s_write_receiver : Stmt := top 56
abbrev s_read_receiver : Stmt := top 57
abbrev s_write_trip : Stmt := top 58
abbrev s_read_trip : Stmt := top 59
abbrev s_write_control : Stmt := top 60
abbrev s_read_control : Stmt := top 61
abbrev s_Packet___init__ : Stmt := inClass (top 63) 0
abbrev s_Packet___eq__ : Stmt := inClass (top 63) 2
abbrev s_wrap : Stmt := top 66
abbrev s_Segment___init__ : Stmt := inClass (top 68) 0
abbrev s_Socket___init__ : Stmt := inClass (top 72) 0
abbrev s_Socket_first : Stmt := inClass (top 72) 1
abbrev s_Socket_to_segment : Stmt := inClass (top 72) 4
abbrev s_octet_sum : Stmt := top 75
abbrev s_checksum : Stmt := top 76
abbrev s_write_number : Stmt := top 78
abbrev s_write_option : Stmt := top 81
abbrev s_write_pair : Stmt := top 82
abbrev s_plain_options : Stmt := top 83
abbrev s_fitting_ranges : Stmt := top 84
abbrev s_write_options_options : Stmt := top 85
abbrev s_flags_of : Stmt := top 89
abbrev s_encode : Stmt := top 90
abbrev s_Host___init__ : Stmt := inClass (top 92) 2
abbrev s_Host_sockets : Stmt := inClass (top 92) 3
abbrev s_Host_find : Stmt := inClass (top 92) 4
abbrev s_Host_connect : Stmt := inClass (top 92) 5
abbrev s_Host_listen : Stmt := inClass (top 92) 6
abbrev s_Host_write : Stmt := inClass (top 92) 9
abbrev s_Host_finish : Stmt := inClass (top 92) 11
abbrev s_Host_abort : Stmt := inClass (top 92) 12
abbrev s_Host_tick : Stmt := inClass (top 92) 15
abbrev s_Host_take : Stmt := inClass (top 92) 16
abbrev s_Host_restart : Stmt := inClass (top 92) 17
abbrev s_Host_status : Stmt := inClass (top 92) 19
abbrev s_Host__known : Stmt := inClass (top 92) 21
abbrev s_Host__is_full : Stmt := inClass (top 92) 22
abbrev s_Host__add : Stmt := inClass (top 92) 24
abbrev s_Host__send : Stmt := inClass (top 92) 27
abbrev s_Host__post : Stmt := inClass (top 92) 28
abbrev s_check_port : Stmt := top 93
abbrev s_Options___init__ : Stmt := inClass (top 96) 0
abbrev s_Options_shift : Stmt := inClass (top 96) 3
abbrev s_Options___eq__ : Stmt := inClass (top 96) 4
abbrev s_Options__values : Stmt := inClass (top 96) 5
abbrev s_write_options_saved : Stmt := top 103
abbrev s_read_options : Stmt := top 105
abbrev s_write_endpoint : Stmt := top 106
abbrev s_read_endpoint : Stmt := top 107
abbrev s_write_socket : Stmt := top 108
abbrev s_read_socket : Stmt := top 109
abbrev s_write_packet : Stmt := top 110
abbrev s_read_packet : Stmt := top 111
abbrev s_write_line : Stmt := top 112
abbrev s_save_host : Stmt := top 113
abbrev s_read_number : Stmt := top 114
abbrev s_LineReader___init__ : Stmt := inClass (top 115) 0
abbrev s_LineReader_next_code : Stmt := inClass (top 115) 1
abbrev s_read_listener : Stmt := top 116
abbrev s_load_host : Stmt := top 117
abbrev s__law_rows : Stmt := top 119
abbrev s__law_options : Stmt := top 120
abbrev s__law_head : Stmt := top 121
abbrev s__law_endpoint : Stmt := top 122
abbrev s__law_shift : Stmt := top 123
abbrev s__law_packet : Stmt := top 124
abbrev s__law_line : Stmt := top 125
abbrev s__law_text : Stmt := top 126
abbrev s__law_socket : Stmt := top 127
abbrev s__law_build : Stmt := top 128
abbrev s_law : Stmt := top 129
abbrev s_Cubic___init__ : Stmt := inClass (top 19) 0
abbrev s_Reno___init__ : Stmt := inClass (top 21) 0

/-- where a def stands -/
inductive Pl where
  | g (x : Str) | m (C x : Str) | p (C x : Str)
def prG (K : PySem.W.Frag) (p : Addr) : Addr := match PySem.W.recIn K p "property" with
  | some (.ref g :: _) => g
  | _ => 0
def Pl.ad (K : PySem.W.Frag) : Pl → Addr
  | .g x => He.ga K x
  | .m C x => He.ma K (He.ga K C) x
  | .p C x => prG K (He.ma K (He.ga K C) x)
/-- the keyword-only default a of C.__init__, where it is an object -/
def dvAd (K : PySem.W.Frag) (C a : Str) : Addr := match K.lookup (He.ma K (He.ga K C) "__init__") with
  | some ⟨_, _, .func fd, _⟩ => (match fd.kwdefaults with
    | .ref D => (match PySem.W.nsIn K D a with
      | some (some (.ref t)) => t
      | _ => 0)
    | _ => 0)
  | _ => 0
inductive Fx where
  | fa (f : He.Fa)
  | prop (C f : Str)
  | tup (x : Str) (vs : List He.Dv)
  | crd (C : Str)
  | cvl (C f : Str) (i : Int)
  | isi (C D : Str) (b : Bool)
  | ety (C a : Str)
  | tyo (C : Str)
  | tty (x : Str)
  | sup (C B : Str)
  | neo (C : Str)
def mainF : Str := PySem.Challenge.pw_throughline_k99_whole_saved_text.main.file
def ttyB (K : PySem.W.Frag) (a : Addr) : Bool := match K.lookup a with
  | some ⟨.type c, none, _, _⟩ => decide (c = "tuple")
  | _ => false
def celB (K : PySem.W.Frag) (D : Addr) : List (Str × Addr) → Bool
  | [(_, cc)] => (match K.lookup cc with
    | some ⟨_, _, .cell (some (.ref E)), _⟩ => decide (E = D)
    | _ => false)
  | _ => false
def filB (K : PySem.W.Frag) : Value → Bool
  | .ref cda => (match K.lookup cda with
    | some ⟨_, _, .fields vs, _⟩ => (match (vs[2]? : Option Value) with
      | some (Value.str file _) => (mainF : Str) == file
      | _ => false)
    | _ => false)
  | _ => false
def supB (K : PySem.W.Frag) (C B : Str) : Bool := (match K.lookup (He.ma K (He.ga K C) "__init__") with
  | some ⟨_, _, .func fd, _⟩ => celB K (He.ga K C) fd.closure && filB K fd.code
  | _ => false) && ((PySem.W.clsIn K (He.ga K C)).isSome && (decide (PySem.W.mroIn K (He.ga K C) (.ref (He.ga K C)) = some true) && (He.eqO (PySem.W.ks_superIn K (He.ga K C) (He.ga K C) "__init__") (some (some (.ref (He.ma K (He.ga K B) "__init__")))) &&
    (decide (PySem.W.typeIn K (.ref (He.ma K (He.ga K B) "__init__")) = some (.type "function")) && (PySem.W.fnIn K (He.ma K (He.ga K B) "__init__") && He.eqO (PySem.W.nsIn K cStatics "thirdparty.any") (some none))))))
def tyE : Value := .type "type"
def etyB (K : PySem.W.Frag) (a : Addr) : Bool := match K.lookup a with
  | some ⟨.type c, _, .seq its _, _⟩ => decide (c = "tuple") && decide (its.size = 0)
  | _ => false
def Fx.ok (K : PySem.W.Frag) : Fx → Bool
  | .fa f => f.ok K
  | .prop C f => He.eqO (PySem.W.findIn K (.ref (He.ga K C)) f) (some (some (.ref (He.ma K (He.ga K C) f)))) &&
      (He.eqO (PySem.W.specialIn K (.ref (He.ma K (He.ga K C) f)) "__get__") (some (some (.builtin "property.__get__"))) && (decide (PySem.W.takesIn K (.ref (He.ma K (He.ga K C) f)) = some true) &&
      (match PySem.W.recIn K (He.ma K (He.ga K C) f) "property" with
        | some (.ref _ :: _) => true
        | _ => false)))
  | .tup x vs => He.tupB K x vs
  | .crd C => PySem.W.readsIn K (He.ga K C) tyE && He.eqO (PySem.W.specialIn K (.ref (He.ga K C)) "__getattribute__") (some (some (.builtin "type.__getattribute__")))
  | .cvl C f i => (match PySem.W.findCls K (.ref (He.ga K C)) tyE f with
      | some (.val (.int j _)) => decide (j = i)
      | _ => false)
  | .isi C D b => decide (PySem.W.kitOne K (.ref (He.ga K C)) (.ref (He.ga K D)) = some b)
  | .ety C a => etyB K (dvAd K C a)
  | .tyo C => He.eqO (PySem.W.findIn K (.ref (He.ga K C)) "__class__") (some (some (.builtin "object.__class__"))) && (He.eqO (PySem.W.specialIn K (.builtin "object.__class__") "__get__") (some (some (.builtin "getset_descriptor.__get__"))) &&
      (decide (PySem.W.takesIn K (.builtin "object.__class__") = some true) && decide (PySem.W.mroIn K (He.ga K C) (.type "object") = some true)))
  | .tty x => ttyB K (He.ga K x)
  | .sup C B => supB K C B
  | .neo C => He.eqO (PySem.W.findIn K (.ref (He.ga K C)) "__ne__") (some (some (.builtin "object.__ne__")))
structure DefM where
  at_ : Pl
  name : Str
  qual : Str
  params : Arguments
  body : List Stmt
  scope : Scope
  dfl : List He.Dv
  kwd : List (Str × He.Dv)
  clo : List Str
def fnM (K : PySem.W.Frag) (p : Pl) : He.FnW := match K.lookup (p.ad K) with
  | some ⟨_, _, .func fd, _⟩ => some (fd.name, fd.qualname, fd.params, fd.body, fd.scope, fd.globals, fd.closure.map (fun q => (q.1, 0)), fd.builtins)
  | _ => none
def DefM.val (d : DefM) : He.FnW := some (d.name, d.qual, d.params, .stmts d.body, d.scope, mainGlobals, d.clo.map (fun x => (x, 0)), builtinsNs)
def DefM.dvs (K : PySem.W.Frag) (d : DefM) : List V := d.dfl.map (He.Dv.v K)
def DefM.kws (K : PySem.W.Frag) (d : DefM) : List (Str × V) := d.kwd.map fun q => (q.1, q.2.v K)
def DefM.ok (K : PySem.W.Frag) (d : DefM) : Bool := PySem.W.keepIn K (.ref (d.at_.ad K)) && (match K.lookup (d.at_.ad K) with
  | some ⟨_, _, .func fd, _⟩ => PySem.W.codeIn K fd.code d.qual && (He.dflB K fd.defaults (d.dvs K) && He.kwdB K fd.kwdefaults (d.kws K))
  | _ => false)
theorem DefM.funD {K : PySem.W.Frag} {d : DefM} (e : fnM K d.at_ = d.val) (c : d.ok K = true) (hc : d.clo = []) : ∃ fd, FunD K d.name d.qual d.params d.body d.scope (d.dvs K) (d.kws K) (d.at_.ad K) fd := by
  obtain ⟨kp, c2⟩ := He.ba c
  unfold fnM at e
  cases q : K.lookup (d.at_.ad K) with
  | none =>
    rw [q] at c2
    cases c2
  | some o =>
    obtain ⟨oc, od, dt, osl⟩ := o
    rw [q] at c2 e
    cases dt with
    | func fd =>
      obtain ⟨n1, n2, n3, n4, n5, n6, n7, n8, n9, n10, n11, n12, n13, n14, n15⟩ := fd
      have e2 : (some (n1, n2, n3, n4, n5, n6, n7.map (fun q => (q.1, 0)), n15) : He.FnW) = some (d.name, d.qual, d.params, .stmts d.body, d.scope, mainGlobals, d.clo.map (fun x => (x, 0)), builtinsNs) := e
      rw [hc] at e2
      simp only [Option.some.injEq, Prod.mk.injEq] at e2
      obtain ⟨h1, h2, h3, h4, h5, h6, h7, h8⟩ := e2
      have h7 : n7 = [] := List.map_eq_nil_iff.mp h7
      subst h1 h2 h3 h4 h5 h6 h7 h8
      have c3 : (PySem.W.codeIn K n13 d.qual && (He.dflB K n8 (d.dvs K) && He.kwdB K n9 (d.kws K))) = true := c2
      obtain ⟨k1, k2⟩ := He.ba c3
      obtain ⟨k3, k4⟩ := He.ba k2
      exact ⟨_, ⟨oc, od, n8, n9, n10, n11, n12, n13, n14, osl, rfl, q, k1, He.dflB_ok k3, He.kwdB_ok k4⟩, kp⟩
    | _ => cases c2
theorem DefM.funS {K : PySem.W.Frag} {d : DefM} (e : fnM K d.at_ = d.val) (c : d.ok K = true) (hc : d.clo = (["__class__"] : List Str)) : ∃ (oc : Value) (od : Option Addr) (dV kV doc pm : Value) (an : Option Addr) (cdv ct : Value) (osl : Array (Option Value)) (cc : Addr),
    K.lookup (d.at_.ad K) = some ⟨oc, od, .func (PySem.W.fnX d.name d.qual d.params d.body d.scope [("__class__", cc)] dV kV doc pm an cdv ct), osl⟩ ∧ PySem.W.codeIn K cdv d.qual = true ∧ DflV K dV (d.dvs K) := by
  obtain ⟨kp, c2⟩ := He.ba c
  unfold fnM at e
  cases q : K.lookup (d.at_.ad K) with
  | none =>
    rw [q] at c2
    cases c2
  | some o =>
    obtain ⟨oc, od, dt, osl⟩ := o
    rw [q] at c2 e
    cases dt with
    | func fd =>
      obtain ⟨n1, n2, n3, n4, n5, n6, n7, n8, n9, n10, n11, n12, n13, n14, n15⟩ := fd
      have e2 : (some (n1, n2, n3, n4, n5, n6, n7.map (fun q => (q.1, 0)), n15) : He.FnW) = some (d.name, d.qual, d.params, .stmts d.body, d.scope, mainGlobals, d.clo.map (fun x => (x, 0)), builtinsNs) := e
      rw [hc] at e2
      simp only [Option.some.injEq, Prod.mk.injEq] at e2
      obtain ⟨h1, h2, h3, h4, h5, h6, h7, h8⟩ := e2
      obtain ⟨cc, h7⟩ : ∃ cc : Addr, n7 = [(("__class__" : Str), cc)] := by
        have hl := congrArg List.length h7
        rw [List.length_map] at hl
        match n7, hl, h7 with
        | [p], _, h =>
          have h2 := (List.cons.inj h).1
          exact ⟨p.2, by rw [← (Prod.mk.inj h2).1]⟩
      subst h1 h2 h3 h4 h5 h6 h7 h8
      have c3 : (PySem.W.codeIn K n13 d.qual && (He.dflB K n8 (d.dvs K) && He.kwdB K n9 (d.kws K))) = true := c2
      obtain ⟨k1, k2⟩ := He.ba c3
      exact ⟨oc, od, n8, n9, n10, n11, n12, n13, n14, osl, cc, rfl, k1, He.dflB_ok (He.ba k2).1⟩
    | _ => cases c2
def aFns0 : List Str := ["is_due", "next_output", "next_reset", "allowance", "spend", "send", "dress", "next_phase", "count_inside", "first_free", "make_control", "write_maybe", "write_many", "write_pairs", "write_sender", "read_sender", "write_receiver", "read_receiver", "write_trip", "read_trip", "write_control", "read_control", "wrap", "octet_sum", "checksum"]
def aFns1 : List Str := ["write_number", "write_option", "write_pair", "plain_options", "fitting_ranges", "write_options_options", "flags_of", "encode", "check_port", "write_options_saved", "read_options", "write_endpoint", "read_endpoint", "write_socket", "read_socket", "write_packet", "read_packet", "write_line", "save_host", "read_number", "read_listener", "load_host", "_law_rows", "_law_options", "_law_head"]
def aFns2 : List Str := ["_law_endpoint", "_law_shift", "_law_packet", "_law_line", "_law_text", "_law_socket", "_law_build", "law"]
def aFns : List Str := aFns0 ++ (aFns1 ++ (aFns2))
def aCls0 : List Str := ["Piece", "Cubic", "Reno", "RoundTrip", "Receiver", "Sender", "Endpoint", "CodeReader", "Packet", "Segment", "Socket", "Host", "Options", "LineReader", "Control"]
def aCls : List Str := aCls0
def aMts0 : List (Str × Str) := [("Piece", "__init__"), ("Control", "__init__"), ("RoundTrip", "__init__"), ("RoundTrip", "bounded"), ("Receiver", "__init__"), ("Sender", "__init__"), ("Sender", "write"), ("Sender", "finish"), ("Sender", "piece"), ("Sender", "mark_sent"), ("Sender", "pipe"), ("Sender", "next_piece"), ("Sender", "_not_sacked"), ("Sender", "_loss_end"), ("Endpoint", "__init__"), ("Endpoint", "write"), ("Endpoint", "finish"), ("Endpoint", "abort"), ("Endpoint", "output"), ("Endpoint", "close"), ("Endpoint", "settle"), ("Endpoint", "wait"), ("Endpoint", "wind"), ("CodeReader", "__init__"), ("CodeReader", "number")]
def aMts1 : List (Str × Str) := [("CodeReader", "flag"), ("CodeReader", "maybe"), ("CodeReader", "choice"), ("CodeReader", "many"), ("CodeReader", "pairs"), ("CodeReader", "finish"), ("Packet", "__init__"), ("Packet", "__eq__"), ("Segment", "__init__"), ("Socket", "__init__"), ("Socket", "to_segment"), ("Host", "__init__"), ("Host", "find"), ("Host", "connect"), ("Host", "listen"), ("Host", "write"), ("Host", "finish"), ("Host", "abort"), ("Host", "tick"), ("Host", "take"), ("Host", "restart"), ("Host", "status"), ("Host", "_known"), ("Host", "_is_full"), ("Host", "_add")]
def aMts2 : List (Str × Str) := [("Host", "_send"), ("Host", "_post"), ("Options", "__init__"), ("Options", "__eq__"), ("Options", "_values"), ("LineReader", "__init__"), ("LineReader", "next_code"), ("Cubic", "__init__"), ("Reno", "__init__")]
def aMts : List (Str × Str) := aMts0 ++ (aMts1 ++ (aMts2))
def aPrs0 : List (Str × Str) := [("Piece", "stop"), ("Receiver", "ready"), ("Receiver", "end_taken"), ("Receiver", "at_end"), ("Sender", "flight"), ("Sender", "unsent"), ("Sender", "all_done"), ("Sender", "free"), ("Endpoint", "has_ended"), ("Endpoint", "needs_answer"), ("Endpoint", "flight"), ("Endpoint", "timeout"), ("Socket", "first"), ("Host", "sockets"), ("Options", "shift")]
def aPrs : List (Str × Str) := aPrs0
def aTups0 : List Str := ["CAUSES", "CONTROLS", "PHASES"]
def aTups : List Str := aTups0
def loose0 : List Str := ["_wall", "Piece", "is_due", "CIRCLE_leaving", "next_output", "next_reset", "allowance", "spend", "send", "dress", "open_phase", "next_phase", "Control", "Cubic", "Reno", "RoundTrip", "Receiver", "count_inside", "first_free", "free_stop", "loss_edge", "Sender", "make_control", "Endpoint", "ThroughlineError"]
def loose1 : List Str := ["InvalidOptions", "InvalidPort", "InvalidAmount", "UnknownSocket", "SocketInUse", "TooManySockets", "ConnectionEnded", "AlreadyFinished", "OwnAddress", "TickInThePast", "InvalidText", "CodeReader", "write_maybe", "write_many", "write_pairs", "write_sender", "read_sender", "write_receiver", "read_receiver", "write_trip", "read_trip", "write_control", "read_control", "Packet", "WRAP"]
def loose2 : List Str := ["wrap", "Segment", "CIRCLE_socket", "FACTOR", "Socket", "MODULUS", "octet_sum", "checksum", "write_number", "MOST", "write_option", "write_pair", "plain_options", "fitting_ranges", "write_options", "write_options_options", "HEADER", "flags_of", "encode", "Host", "check_port", "GREATEST", "Options", "TITLE", "DIGITS"]
def loose3 : List Str := ["CONTROLS", "PHASES", "CAUSES", "write_options_saved", "read_options", "write_endpoint", "read_endpoint", "write_socket", "read_socket", "write_packet", "read_packet", "write_line", "save_host", "read_number", "LineReader", "read_listener", "load_host", "_law_rows", "_law_options", "_law_head", "_law_endpoint", "_law_shift", "_law_packet", "_law_line", "_law_text"]
def loose4 : List Str := ["_law_socket", "_law_build"]
def loose : List Str := loose0 ++ (loose1 ++ (loose2 ++ (loose3 ++ (loose4))))

def fx0 : List Fx := [.fa (.glo "is_due"),
  .fa (.glo "next_output"),
  .fa (.glo "next_reset"),
  .fa (.glo "allowance"),
  .fa (.glo "spend"),
  .fa (.glo "send"),
  .fa (.glo "dress"),
  .fa (.glo "next_phase"),
  .fa (.glo "count_inside"),
  .fa (.glo "first_free"),
  .fa (.glo "make_control"),
  .fa (.glo "write_maybe"),
  .fa (.glo "write_many"),
  .fa (.glo "write_pairs"),
  .fa (.glo "write_sender"),
  .fa (.glo "read_sender"),
  .fa (.glo "write_receiver"),
  .fa (.glo "read_receiver"),
  .fa (.glo "write_trip"),
  .fa (.glo "read_trip"),
  .fa (.glo "write_control"),
  .fa (.glo "read_control"),
  .fa (.glo "wrap"),
  .fa (.glo "octet_sum"),
  .fa (.glo "checksum"),
  .fa (.glo "write_number"),
  .fa (.glo "write_option"),
  .fa (.glo "write_pair"),
  .fa (.glo "plain_options"),
  .fa (.glo "fitting_ranges"),
  .fa (.glo "write_options_options"),
  .fa (.glo "flags_of"),
  .fa (.glo "encode"),
  .fa (.glo "check_port"),
  .fa (.glo "write_options_saved"),
  .fa (.glo "read_options"),
  .fa (.glo "write_endpoint"),
  .fa (.glo "read_endpoint"),
  .fa (.glo "write_socket"),
  .fa (.glo "read_socket")]
def fx1 : List Fx := [.fa (.glo "write_packet"),
  .fa (.glo "read_packet"),
  .fa (.glo "write_line"),
  .fa (.glo "save_host"),
  .fa (.glo "read_number"),
  .fa (.glo "read_listener"),
  .fa (.glo "load_host"),
  .fa (.glo "_law_rows"),
  .fa (.glo "_law_options"),
  .fa (.glo "_law_head"),
  .fa (.glo "_law_endpoint"),
  .fa (.glo "_law_shift"),
  .fa (.glo "_law_packet"),
  .fa (.glo "_law_line"),
  .fa (.glo "_law_text"),
  .fa (.glo "_law_socket"),
  .fa (.glo "_law_build"),
  .fa (.glo "law"),
  .fa (.glo "Piece"),
  .fa (.glo "Cubic"),
  .fa (.glo "Reno"),
  .fa (.glo "RoundTrip"),
  .fa (.glo "Receiver"),
  .fa (.glo "Sender"),
  .fa (.glo "Endpoint"),
  .fa (.glo "CodeReader"),
  .fa (.glo "Packet"),
  .fa (.glo "Segment"),
  .fa (.glo "Socket"),
  .fa (.glo "Host"),
  .fa (.glo "Options"),
  .fa (.glo "LineReader"),
  .fa (.glo "Control"),
  .fa (.glo "CAUSES"),
  .fa (.glo "CONTROLS"),
  .fa (.glo "PHASES"),
  .fa (.free "enumerate"),
  .fa (.free "int"),
  .fa (.free "isinstance"),
  .fa (.free "len")]
def fx2 : List Fx := [.fa (.free "list"),
  .fa (.free "max"),
  .fa (.free "min"),
  .fa (.free "range"),
  .fa (.free "sorted"),
  .fa (.free "str"),
  .fa (.free "super"),
  .fa (.free "tuple"),
  .fa (.int "CIRCLE_leaving" 4294967296),
  .fa (.int "WRAP" 4294967296),
  .fa (.int "CIRCLE_socket" 4294967296),
  .fa (.int "FACTOR" 2654435761),
  .fa (.int "MODULUS" 65535),
  .fa (.int "MOST" 40),
  .fa (.int "HEADER" 20),
  .fa (.int "GREATEST" 1073741824),
  .fa (.str "TITLE" "throughline host 1"),
  .fa (.str "DIGITS" "0123456789"),
  .fa (.cls "Piece"),
  .fa (.noat "Piece" "start"),
  .fa (.noat "Piece" "data"),
  .fa (.noat "Piece" "syn"),
  .fa (.noat "Piece" "fin"),
  .fa (.noat "Piece" "reset"),
  .fa (.noat "Piece" "ack"),
  .fa (.noat "Piece" "window"),
  .fa (.noat "Piece" "ranges"),
  .fa (.noat "Piece" "marked"),
  .fa (.noat "Piece" "cut"),
  .fa (.noat "Piece" "stamp"),
  .fa (.cls "Cubic"),
  .fa (.noat "Cubic" "cwnd"),
  .fa (.noat "Cubic" "thresh"),
  .fa (.noat "Cubic" "peak"),
  .fa (.noat "Cubic" "prior"),
  .fa (.noat "Cubic" "calm"),
  .fa (.noat "Cubic" "period"),
  .fa (.cls "Reno"),
  .fa (.noat "Reno" "cwnd"),
  .fa (.noat "Reno" "thresh")]
def fx3 : List Fx := [.fa (.noat "Reno" "peak"),
  .fa (.noat "Reno" "prior"),
  .fa (.noat "Reno" "calm"),
  .fa (.noat "Reno" "credit"),
  .fa (.cls "RoundTrip"),
  .fa (.noat "RoundTrip" "least"),
  .fa (.noat "RoundTrip" "most"),
  .fa (.noat "RoundTrip" "srtt"),
  .fa (.noat "RoundTrip" "variance"),
  .fa (.noat "RoundTrip" "measured"),
  .fa (.noat "RoundTrip" "rto"),
  .fa (.cls "Receiver"),
  .fa (.noat "Receiver" "room"),
  .fa (.noat "Receiver" "nxt"),
  .fa (.noat "Receiver" "edge"),
  .fa (.noat "Receiver" "end"),
  .fa (.noat "Receiver" "recent"),
  .fa (.noat "Receiver" "_ready"),
  .fa (.noat "Receiver" "_held"),
  .fa (.cls "Sender"),
  .fa (.noat "Sender" "room"),
  .fa (.noat "Sender" "una"),
  .fa (.noat "Sender" "nxt"),
  .fa (.noat "Sender" "written"),
  .fa (.noat "Sender" "finished"),
  .fa (.noat "Sender" "edge"),
  .fa (.noat "Sender" "recovery"),
  .fa (.noat "Sender" "resend"),
  .fa (.noat "Sender" "lost"),
  .fa (.noat "Sender" "repeated"),
  .fa (.noat "Sender" "_queue"),
  .fa (.noat "Sender" "_sacked"),
  .fa (.cls "Endpoint"),
  .fa (.noat "Endpoint" "options"),
  .fa (.noat "Endpoint" "sender"),
  .fa (.noat "Endpoint" "receiver"),
  .fa (.noat "Endpoint" "trip"),
  .fa (.noat "Endpoint" "control"),
  .fa (.noat "Endpoint" "phase"),
  .fa (.noat "Endpoint" "cause")]
def fx4 : List Fx := [.fa (.noat "Endpoint" "mss"),
  .fa (.noat "Endpoint" "selective"),
  .fa (.noat "Endpoint" "alarm"),
  .fa (.noat "Endpoint" "since"),
  .fa (.noat "Endpoint" "ack_at"),
  .fa (.noat "Endpoint" "late"),
  .fa (.noat "Endpoint" "asked"),
  .fa (.noat "Endpoint" "again"),
  .fa (.noat "Endpoint" "probe"),
  .fa (.noat "Endpoint" "over"),
  .fa (.noat "Endpoint" "rest"),
  .fa (.noat "Endpoint" "spent_at"),
  .fa (.noat "Endpoint" "spent"),
  .fa (.noat "Endpoint" "stamp"),
  .fa (.noat "Endpoint" "marked"),
  .fa (.noat "Endpoint" "cut"),
  .fa (.cls "CodeReader"),
  .fa (.noat "CodeReader" "numbers"),
  .fa (.noat "CodeReader" "line"),
  .fa (.noat "CodeReader" "at"),
  .fa (.cls "Packet"),
  .fa (.noat "Packet" "sender"),
  .fa (.noat "Packet" "target"),
  .fa (.noat "Packet" "octets"),
  .fa (.noat "Packet" "marked"),
  .fa (.cls "Segment"),
  .fa (.noat "Segment" "source"),
  .fa (.noat "Segment" "target"),
  .fa (.noat "Segment" "seq"),
  .fa (.noat "Segment" "count"),
  .fa (.noat "Segment" "echo"),
  .fa (.noat "Segment" "ack"),
  .fa (.noat "Segment" "syn"),
  .fa (.noat "Segment" "fin"),
  .fa (.noat "Segment" "reset"),
  .fa (.noat "Segment" "marked"),
  .fa (.noat "Segment" "cut"),
  .fa (.noat "Segment" "window"),
  .fa (.noat "Segment" "mss"),
  .fa (.noat "Segment" "scale")]
def fx5 : List Fx := [.fa (.noat "Segment" "ranges_known"),
  .fa (.noat "Segment" "ranges"),
  .fa (.noat "Segment" "stamp"),
  .fa (.noat "Segment" "data"),
  .fa (.cls "Socket"),
  .fa (.noat "Socket" "count"),
  .fa (.noat "Socket" "port"),
  .fa (.noat "Socket" "peer"),
  .fa (.noat "Socket" "peer_port"),
  .fa (.noat "Socket" "peer_count"),
  .fa (.noat "Socket" "peer_first"),
  .fa (.noat "Socket" "peer_shift"),
  .fa (.noat "Socket" "listened"),
  .fa (.noat "Socket" "accepted"),
  .fa (.noat "Socket" "endpoint"),
  .fa (.cls "Host"),
  .fa (.noat "Host" "address"),
  .fa (.noat "Host" "options"),
  .fa (.noat "Host" "counter"),
  .fa (.noat "Host" "now"),
  .fa (.noat "Host" "_listeners"),
  .fa (.noat "Host" "_sockets"),
  .fa (.noat "Host" "_packets"),
  .fa (.cls "Options"),
  .fa (.noat "Options" "mss"),
  .fa (.noat "Options" "room"),
  .fa (.noat "Options" "life"),
  .fa (.noat "Options" "pace"),
  .fa (.noat "Options" "tries"),
  .fa (.noat "Options" "min_rto"),
  .fa (.noat "Options" "max_rto"),
  .fa (.noat "Options" "ack_delay"),
  .fa (.noat "Options" "keep_alive"),
  .fa (.noat "Options" "nagle"),
  .fa (.noat "Options" "control"),
  .fa (.cls "LineReader"),
  .fa (.noat "LineReader" "lines"),
  .fa (.noat "LineReader" "at"),
  .fa (.mkr "Piece"),
  .prop "Piece" "stop"]
def fx6 : List Fx := [.fa (.mkr "RoundTrip"),
  .fa (.meth "RoundTrip" "bounded"),
  .fa (.mkr "Receiver"),
  .prop "Receiver" "ready",
  .prop "Receiver" "end_taken",
  .prop "Receiver" "at_end",
  .fa (.mkr "Sender"),
  .prop "Sender" "flight",
  .prop "Sender" "unsent",
  .prop "Sender" "all_done",
  .prop "Sender" "free",
  .fa (.meth "Sender" "write"),
  .fa (.meth "Sender" "finish"),
  .fa (.meth "Sender" "piece"),
  .fa (.meth "Sender" "mark_sent"),
  .fa (.meth "Sender" "pipe"),
  .fa (.meth "Sender" "next_piece"),
  .fa (.meth "Sender" "_not_sacked"),
  .fa (.meth "Sender" "_loss_end"),
  .fa (.mkr "Endpoint"),
  .prop "Endpoint" "has_ended",
  .prop "Endpoint" "needs_answer",
  .prop "Endpoint" "flight",
  .prop "Endpoint" "timeout",
  .fa (.meth "Endpoint" "write"),
  .fa (.meth "Endpoint" "finish"),
  .fa (.meth "Endpoint" "abort"),
  .fa (.meth "Endpoint" "output"),
  .fa (.meth "Endpoint" "close"),
  .fa (.meth "Endpoint" "settle"),
  .fa (.meth "Endpoint" "wait"),
  .fa (.meth "Endpoint" "wind"),
  .fa (.mkr "CodeReader"),
  .fa (.meth "CodeReader" "number"),
  .fa (.meth "CodeReader" "flag"),
  .fa (.meth "CodeReader" "maybe"),
  .fa (.meth "CodeReader" "choice"),
  .fa (.meth "CodeReader" "many"),
  .fa (.meth "CodeReader" "pairs"),
  .fa (.meth "CodeReader" "finish")]
def fx7 : List Fx := [.fa (.mkr "Packet"),
  .fa (.meth "Packet" "__eq__"),
  .fa (.mkr "Segment"),
  .fa (.mkr "Socket"),
  .prop "Socket" "first",
  .fa (.meth "Socket" "to_segment"),
  .fa (.mkr "Host"),
  .prop "Host" "sockets",
  .fa (.meth "Host" "find"),
  .fa (.meth "Host" "connect"),
  .fa (.meth "Host" "listen"),
  .fa (.meth "Host" "write"),
  .fa (.meth "Host" "finish"),
  .fa (.meth "Host" "abort"),
  .fa (.meth "Host" "tick"),
  .fa (.meth "Host" "take"),
  .fa (.meth "Host" "restart"),
  .fa (.meth "Host" "status"),
  .fa (.meth "Host" "_known"),
  .fa (.meth "Host" "_is_full"),
  .fa (.meth "Host" "_add"),
  .fa (.meth "Host" "_send"),
  .fa (.meth "Host" "_post"),
  .fa (.mkr "Options"),
  .prop "Options" "shift",
  .fa (.meth "Options" "__eq__"),
  .fa (.meth "Options" "_values"),
  .fa (.mkr "LineReader"),
  .fa (.meth "LineReader" "next_code"),
  .fa (.mkr "Cubic"),
  .fa (.mkr "Reno"),
  .tup "CONTROLS" [.str "reno", .str "cubic"],
  .tup "PHASES" [.str "syn sent", .str "syn received", .str "established", .str "fin wait 1", .str "fin wait 2", .str "close wait", .str "closing", .str "last ack", .str "time wait", .str "ended"],
  .tup "CAUSES" [.str "done", .str "refused", .str "reset", .str "gave up", .str "silent", .str "aborted"],
  .crd "Control",
  .crd "Endpoint",
  .crd "Host",
  .cvl "Control" "GREATEST" 1073741824,
  .cvl "Endpoint" "MOST_AT_ONCE" 64,
  .cvl "Host" "MOST_SOCKETS" 32]
def fx8 : List Fx := [.cvl "Host" "GREATEST_COUNT" 4294967295,
  .isi "Cubic" "Reno" false,
  .isi "Reno" "Reno" true,
  .isi "Packet" "Packet" true,
  .isi "Options" "Options" true,
  .fa (.meth "Packet" "__eq__"),
  .fa (.meth "Options" "__eq__"),
  .tyo "Reno",
  .tyo "Cubic",
  .tyo "Packet",
  .tyo "Options",
  .tty "CAUSES",
  .tty "CONTROLS",
  .tty "PHASES",
  .neo "Options",
  .sup "Cubic" "Control",
  .sup "Reno" "Control",
  .fa (.glo "InvalidOptions"),
  .ety "Piece" "data",
  .ety "Piece" "ranges",
  .ety "Segment" "data",
  .ety "Segment" "ranges"]
def fx : List Fx := fx0 ++ (fx1 ++ (fx2 ++ (fx3 ++ (fx4 ++ (fx5 ++ (fx6 ++ (fx7 ++ (fx8))))))))

def fn0 : List DefM := [⟨.m "Piece" "__init__", "__init__", "Piece.__init__", defArgs s_Piece___init__, defBody s_Piece___init__, defScope s_Piece___init__, [], [("data", .adr fun K => dvAd K "Piece" "data"), ("syn", .bl false), ("fin", .bl false), ("reset", .bl false), ("ack", .non), ("window", .int 0), ("ranges", .adr fun K => dvAd K "Piece" "ranges"), ("marked", .bl false), ("cut", .bl false), ("stamp", .non)], []⟩,
  ⟨.p "Piece" "stop", "stop", "Piece.stop", defArgs s_Piece_stop, defBody s_Piece_stop, defScope s_Piece_stop, [], [], []⟩,
  ⟨.g "is_due", "is_due", "is_due", defArgs s_is_due, defBody s_is_due, defScope s_is_due, [], [], []⟩,
  ⟨.g "next_output", "next_output", "next_output", defArgs s_next_output, defBody s_next_output, defScope s_next_output, [], [], []⟩,
  ⟨.g "next_reset", "next_reset", "next_reset", defArgs s_next_reset, defBody s_next_reset, defScope s_next_reset, [], [], []⟩,
  ⟨.g "allowance", "allowance", "allowance", defArgs s_allowance, defBody s_allowance, defScope s_allowance, [], [], []⟩,
  ⟨.g "spend", "spend", "spend", defArgs s_spend, defBody s_spend, defScope s_spend, [], [], []⟩,
  ⟨.g "send", "send", "send", defArgs s_send, defBody s_send, defScope s_send, [], [], []⟩,
  ⟨.g "dress", "dress", "dress", defArgs s_dress, defBody s_dress, defScope s_dress, [], [], []⟩,
  ⟨.g "next_phase", "next_phase", "next_phase", defArgs s_next_phase, defBody s_next_phase, defScope s_next_phase, [], [], []⟩,
  ⟨.m "Control" "__init__", "__init__", "Control.__init__", defArgs s_Control___init__, defBody s_Control___init__, defScope s_Control___init__, [], [], []⟩,
  ⟨.m "RoundTrip" "__init__", "__init__", "RoundTrip.__init__", defArgs s_RoundTrip___init__, defBody s_RoundTrip___init__, defScope s_RoundTrip___init__, [], [], []⟩,
  ⟨.m "RoundTrip" "bounded", "bounded", "RoundTrip.bounded", defArgs s_RoundTrip_bounded, defBody s_RoundTrip_bounded, defScope s_RoundTrip_bounded, [], [], []⟩,
  ⟨.m "Receiver" "__init__", "__init__", "Receiver.__init__", defArgs s_Receiver___init__, defBody s_Receiver___init__, defScope s_Receiver___init__, [], [], []⟩,
  ⟨.p "Receiver" "ready", "ready", "Receiver.ready", defArgs s_Receiver_ready, defBody s_Receiver_ready, defScope s_Receiver_ready, [], [], []⟩,
  ⟨.p "Receiver" "end_taken", "end_taken", "Receiver.end_taken", defArgs s_Receiver_end_taken, defBody s_Receiver_end_taken, defScope s_Receiver_end_taken, [], [], []⟩,
  ⟨.p "Receiver" "at_end", "at_end", "Receiver.at_end", defArgs s_Receiver_at_end, defBody s_Receiver_at_end, defScope s_Receiver_at_end, [], [], []⟩,
  ⟨.g "count_inside", "count_inside", "count_inside", defArgs s_count_inside, defBody s_count_inside, defScope s_count_inside, [], [], []⟩,
  ⟨.g "first_free", "first_free", "first_free", defArgs s_first_free, defBody s_first_free, defScope s_first_free, [], [], []⟩,
  ⟨.m "Sender" "__init__", "__init__", "Sender.__init__", defArgs s_Sender___init__, defBody s_Sender___init__, defScope s_Sender___init__, [], [], []⟩]
def fn1 : List DefM := [⟨.p "Sender" "flight", "flight", "Sender.flight", defArgs s_Sender_flight, defBody s_Sender_flight, defScope s_Sender_flight, [], [], []⟩,
  ⟨.p "Sender" "unsent", "unsent", "Sender.unsent", defArgs s_Sender_unsent, defBody s_Sender_unsent, defScope s_Sender_unsent, [], [], []⟩,
  ⟨.p "Sender" "all_done", "all_done", "Sender.all_done", defArgs s_Sender_all_done, defBody s_Sender_all_done, defScope s_Sender_all_done, [], [], []⟩,
  ⟨.p "Sender" "free", "free", "Sender.free", defArgs s_Sender_free, defBody s_Sender_free, defScope s_Sender_free, [], [], []⟩,
  ⟨.m "Sender" "write", "write", "Sender.write", defArgs s_Sender_write, defBody s_Sender_write, defScope s_Sender_write, [], [], []⟩,
  ⟨.m "Sender" "finish", "finish", "Sender.finish", defArgs s_Sender_finish, defBody s_Sender_finish, defScope s_Sender_finish, [], [], []⟩,
  ⟨.m "Sender" "piece", "piece", "Sender.piece", defArgs s_Sender_piece, defBody s_Sender_piece, defScope s_Sender_piece, [], [], []⟩,
  ⟨.m "Sender" "mark_sent", "mark_sent", "Sender.mark_sent", defArgs s_Sender_mark_sent, defBody s_Sender_mark_sent, defScope s_Sender_mark_sent, [], [], []⟩,
  ⟨.m "Sender" "pipe", "pipe", "Sender.pipe", defArgs s_Sender_pipe, defBody s_Sender_pipe, defScope s_Sender_pipe, [], [], []⟩,
  ⟨.m "Sender" "next_piece", "next_piece", "Sender.next_piece", defArgs s_Sender_next_piece, defBody s_Sender_next_piece, defScope s_Sender_next_piece, [], [("nagle", .bl false)], []⟩,
  ⟨.m "Sender" "_not_sacked", "_not_sacked", "Sender._not_sacked", defArgs s_Sender__not_sacked, defBody s_Sender__not_sacked, defScope s_Sender__not_sacked, [], [], []⟩,
  ⟨.m "Sender" "_loss_end", "_loss_end", "Sender._loss_end", defArgs s_Sender__loss_end, defBody s_Sender__loss_end, defScope s_Sender__loss_end, [], [], []⟩,
  ⟨.g "make_control", "make_control", "make_control", defArgs s_make_control, defBody s_make_control, defScope s_make_control, [], [], []⟩,
  ⟨.m "Endpoint" "__init__", "__init__", "Endpoint.__init__", defArgs s_Endpoint___init__, defBody s_Endpoint___init__, defScope s_Endpoint___init__, [], [], []⟩,
  ⟨.p "Endpoint" "has_ended", "has_ended", "Endpoint.has_ended", defArgs s_Endpoint_has_ended, defBody s_Endpoint_has_ended, defScope s_Endpoint_has_ended, [], [], []⟩,
  ⟨.p "Endpoint" "needs_answer", "needs_answer", "Endpoint.needs_answer", defArgs s_Endpoint_needs_answer, defBody s_Endpoint_needs_answer, defScope s_Endpoint_needs_answer, [], [], []⟩,
  ⟨.p "Endpoint" "flight", "flight", "Endpoint.flight", defArgs s_Endpoint_flight, defBody s_Endpoint_flight, defScope s_Endpoint_flight, [], [], []⟩,
  ⟨.p "Endpoint" "timeout", "timeout", "Endpoint.timeout", defArgs s_Endpoint_timeout, defBody s_Endpoint_timeout, defScope s_Endpoint_timeout, [], [], []⟩,
  ⟨.m "Endpoint" "write", "write", "Endpoint.write", defArgs s_Endpoint_write, defBody s_Endpoint_write, defScope s_Endpoint_write, [], [], []⟩,
  ⟨.m "Endpoint" "finish", "finish", "Endpoint.finish", defArgs s_Endpoint_finish, defBody s_Endpoint_finish, defScope s_Endpoint_finish, [], [], []⟩]
def fn2 : List DefM := [⟨.m "Endpoint" "abort", "abort", "Endpoint.abort", defArgs s_Endpoint_abort, defBody s_Endpoint_abort, defScope s_Endpoint_abort, [], [], []⟩,
  ⟨.m "Endpoint" "output", "output", "Endpoint.output", defArgs s_Endpoint_output, defBody s_Endpoint_output, defScope s_Endpoint_output, [], [], []⟩,
  ⟨.m "Endpoint" "close", "close", "Endpoint.close", defArgs s_Endpoint_close, defBody s_Endpoint_close, defScope s_Endpoint_close, [], [], []⟩,
  ⟨.m "Endpoint" "settle", "settle", "Endpoint.settle", defArgs s_Endpoint_settle, defBody s_Endpoint_settle, defScope s_Endpoint_settle, [], [], []⟩,
  ⟨.m "Endpoint" "wait", "wait", "Endpoint.wait", defArgs s_Endpoint_wait, defBody s_Endpoint_wait, defScope s_Endpoint_wait, [], [], []⟩,
  ⟨.m "Endpoint" "wind", "wind", "Endpoint.wind", defArgs s_Endpoint_wind, defBody s_Endpoint_wind, defScope s_Endpoint_wind, [], [], []⟩,
  ⟨.m "CodeReader" "__init__", "__init__", "CodeReader.__init__", defArgs s_CodeReader___init__, defBody s_CodeReader___init__, defScope s_CodeReader___init__, [], [], []⟩,
  ⟨.m "CodeReader" "number", "number", "CodeReader.number", defArgs s_CodeReader_number, defBody s_CodeReader_number, defScope s_CodeReader_number, [], [], []⟩,
  ⟨.m "CodeReader" "flag", "flag", "CodeReader.flag", defArgs s_CodeReader_flag, defBody s_CodeReader_flag, defScope s_CodeReader_flag, [], [], []⟩,
  ⟨.m "CodeReader" "maybe", "maybe", "CodeReader.maybe", defArgs s_CodeReader_maybe, defBody s_CodeReader_maybe, defScope s_CodeReader_maybe, [], [], []⟩,
  ⟨.m "CodeReader" "choice", "choice", "CodeReader.choice", defArgs s_CodeReader_choice, defBody s_CodeReader_choice, defScope s_CodeReader_choice, [], [], []⟩,
  ⟨.m "CodeReader" "many", "many", "CodeReader.many", defArgs s_CodeReader_many, defBody s_CodeReader_many, defScope s_CodeReader_many, [], [], []⟩,
  ⟨.m "CodeReader" "pairs", "pairs", "CodeReader.pairs", defArgs s_CodeReader_pairs, defBody s_CodeReader_pairs, defScope s_CodeReader_pairs, [], [], []⟩,
  ⟨.m "CodeReader" "finish", "finish", "CodeReader.finish", defArgs s_CodeReader_finish, defBody s_CodeReader_finish, defScope s_CodeReader_finish, [], [], []⟩,
  ⟨.g "write_maybe", "write_maybe", "write_maybe", defArgs s_write_maybe, defBody s_write_maybe, defScope s_write_maybe, [], [], []⟩,
  ⟨.g "write_many", "write_many", "write_many", defArgs s_write_many, defBody s_write_many, defScope s_write_many, [], [], []⟩,
  ⟨.g "write_pairs", "write_pairs", "write_pairs", defArgs s_write_pairs, defBody s_write_pairs, defScope s_write_pairs, [], [], []⟩,
  ⟨.g "write_sender", "write_sender", "write_sender", defArgs s_write_sender, defBody s_write_sender, defScope s_write_sender, [], [], []⟩,
  ⟨.g "read_sender", "read_sender", "read_sender", defArgs s_read_sender, defBody s_read_sender, defScope s_read_sender, [], [], []⟩,
  ⟨.g "write_receiver", "write_receiver", "write_receiver", defArgs s_write_receiver, defBody s_write_receiver, defScope s_write_receiver, [], [], []⟩]
def fn3 : List DefM := [⟨.g "read_receiver", "read_receiver", "read_receiver", defArgs s_read_receiver, defBody s_read_receiver, defScope s_read_receiver, [], [], []⟩,
  ⟨.g "write_trip", "write_trip", "write_trip", defArgs s_write_trip, defBody s_write_trip, defScope s_write_trip, [], [], []⟩,
  ⟨.g "read_trip", "read_trip", "read_trip", defArgs s_read_trip, defBody s_read_trip, defScope s_read_trip, [], [], []⟩,
  ⟨.g "write_control", "write_control", "write_control", defArgs s_write_control, defBody s_write_control, defScope s_write_control, [], [], []⟩,
  ⟨.g "read_control", "read_control", "read_control", defArgs s_read_control, defBody s_read_control, defScope s_read_control, [], [], []⟩,
  ⟨.m "Packet" "__init__", "__init__", "Packet.__init__", defArgs s_Packet___init__, defBody s_Packet___init__, defScope s_Packet___init__, [], [("marked", .bl false)], []⟩,
  ⟨.m "Packet" "__eq__", "__eq__", "Packet.__eq__", defArgs s_Packet___eq__, defBody s_Packet___eq__, defScope s_Packet___eq__, [], [], []⟩,
  ⟨.g "wrap", "wrap", "wrap", defArgs s_wrap, defBody s_wrap, defScope s_wrap, [], [], []⟩,
  ⟨.m "Segment" "__init__", "__init__", "Segment.__init__", defArgs s_Segment___init__, defBody s_Segment___init__, defScope s_Segment___init__, [], [("echo", .non), ("ack", .non), ("syn", .bl false), ("fin", .bl false), ("reset", .bl false), ("marked", .bl false), ("cut", .bl false), ("window", .int 0), ("mss", .non), ("scale", .non), ("ranges_known", .bl false), ("ranges", .adr fun K => dvAd K "Segment" "ranges"), ("stamp", .non), ("data", .adr fun K => dvAd K "Segment" "data")], []⟩,
  ⟨.m "Socket" "__init__", "__init__", "Socket.__init__", defArgs s_Socket___init__, defBody s_Socket___init__, defScope s_Socket___init__, [], [("listened", .bl false)], []⟩,
  ⟨.p "Socket" "first", "first", "Socket.first", defArgs s_Socket_first, defBody s_Socket_first, defScope s_Socket_first, [], [], []⟩,
  ⟨.m "Socket" "to_segment", "to_segment", "Socket.to_segment", defArgs s_Socket_to_segment, defBody s_Socket_to_segment, defScope s_Socket_to_segment, [], [], []⟩,
  ⟨.g "octet_sum", "octet_sum", "octet_sum", defArgs s_octet_sum, defBody s_octet_sum, defScope s_octet_sum, [], [], []⟩,
  ⟨.g "checksum", "checksum", "checksum", defArgs s_checksum, defBody s_checksum, defScope s_checksum, [], [], []⟩,
  ⟨.g "write_number", "write_number", "write_number", defArgs s_write_number, defBody s_write_number, defScope s_write_number, [], [], []⟩,
  ⟨.g "write_option", "write_option", "write_option", defArgs s_write_option, defBody s_write_option, defScope s_write_option, [], [], []⟩,
  ⟨.g "write_pair", "write_pair", "write_pair", defArgs s_write_pair, defBody s_write_pair, defScope s_write_pair, [], [], []⟩,
  ⟨.g "plain_options", "plain_options", "plain_options", defArgs s_plain_options, defBody s_plain_options, defScope s_plain_options, [], [], []⟩,
  ⟨.g "fitting_ranges", "fitting_ranges", "fitting_ranges", defArgs s_fitting_ranges, defBody s_fitting_ranges, defScope s_fitting_ranges, [], [], []⟩,
  ⟨.g "write_options_options", "write_options", "write_options", defArgs s_write_options_options, defBody s_write_options_options, defScope s_write_options_options, [], [], []⟩]
def fn4 : List DefM := [⟨.g "flags_of", "flags_of", "flags_of", defArgs s_flags_of, defBody s_flags_of, defScope s_flags_of, [], [], []⟩,
  ⟨.g "encode", "encode", "encode", defArgs s_encode, defBody s_encode, defScope s_encode, [], [], []⟩,
  ⟨.m "Host" "__init__", "__init__", "Host.__init__", defArgs s_Host___init__, defBody s_Host___init__, defScope s_Host___init__, [], [], []⟩,
  ⟨.p "Host" "sockets", "sockets", "Host.sockets", defArgs s_Host_sockets, defBody s_Host_sockets, defScope s_Host_sockets, [], [], []⟩,
  ⟨.m "Host" "find", "find", "Host.find", defArgs s_Host_find, defBody s_Host_find, defScope s_Host_find, [], [], []⟩,
  ⟨.m "Host" "connect", "connect", "Host.connect", defArgs s_Host_connect, defBody s_Host_connect, defScope s_Host_connect, [], [], []⟩,
  ⟨.m "Host" "listen", "listen", "Host.listen", defArgs s_Host_listen, defBody s_Host_listen, defScope s_Host_listen, [], [("backlog", .int 8)], []⟩,
  ⟨.m "Host" "write", "write", "Host.write", defArgs s_Host_write, defBody s_Host_write, defScope s_Host_write, [], [], []⟩,
  ⟨.m "Host" "finish", "finish", "Host.finish", defArgs s_Host_finish, defBody s_Host_finish, defScope s_Host_finish, [], [], []⟩,
  ⟨.m "Host" "abort", "abort", "Host.abort", defArgs s_Host_abort, defBody s_Host_abort, defScope s_Host_abort, [], [], []⟩,
  ⟨.m "Host" "tick", "tick", "Host.tick", defArgs s_Host_tick, defBody s_Host_tick, defScope s_Host_tick, [], [], []⟩,
  ⟨.m "Host" "take", "take", "Host.take", defArgs s_Host_take, defBody s_Host_take, defScope s_Host_take, [], [], []⟩,
  ⟨.m "Host" "restart", "restart", "Host.restart", defArgs s_Host_restart, defBody s_Host_restart, defScope s_Host_restart, [], [], []⟩,
  ⟨.m "Host" "status", "status", "Host.status", defArgs s_Host_status, defBody s_Host_status, defScope s_Host_status, [], [], []⟩,
  ⟨.m "Host" "_known", "_known", "Host._known", defArgs s_Host__known, defBody s_Host__known, defScope s_Host__known, [], [], []⟩,
  ⟨.m "Host" "_is_full", "_is_full", "Host._is_full", defArgs s_Host__is_full, defBody s_Host__is_full, defScope s_Host__is_full, [], [], []⟩,
  ⟨.m "Host" "_add", "_add", "Host._add", defArgs s_Host__add, defBody s_Host__add, defScope s_Host__add, [], [], []⟩,
  ⟨.m "Host" "_send", "_send", "Host._send", defArgs s_Host__send, defBody s_Host__send, defScope s_Host__send, [], [], []⟩,
  ⟨.m "Host" "_post", "_post", "Host._post", defArgs s_Host__post, defBody s_Host__post, defScope s_Host__post, [], [], []⟩,
  ⟨.g "check_port", "check_port", "check_port", defArgs s_check_port, defBody s_check_port, defScope s_check_port, [], [], []⟩]
def fn5 : List DefM := [⟨.m "Options" "__init__", "__init__", "Options.__init__", defArgs s_Options___init__, defBody s_Options___init__, defScope s_Options___init__, [], [("ack_delay", .int 0), ("keep_alive", .int 0), ("nagle", .bl false), ("control", .str "reno")], []⟩,
  ⟨.p "Options" "shift", "shift", "Options.shift", defArgs s_Options_shift, defBody s_Options_shift, defScope s_Options_shift, [], [], []⟩,
  ⟨.m "Options" "__eq__", "__eq__", "Options.__eq__", defArgs s_Options___eq__, defBody s_Options___eq__, defScope s_Options___eq__, [], [], []⟩,
  ⟨.m "Options" "_values", "_values", "Options._values", defArgs s_Options__values, defBody s_Options__values, defScope s_Options__values, [], [], []⟩,
  ⟨.g "write_options_saved", "write_options", "write_options", defArgs s_write_options_saved, defBody s_write_options_saved, defScope s_write_options_saved, [], [], []⟩,
  ⟨.g "read_options", "read_options", "read_options", defArgs s_read_options, defBody s_read_options, defScope s_read_options, [], [], []⟩,
  ⟨.g "write_endpoint", "write_endpoint", "write_endpoint", defArgs s_write_endpoint, defBody s_write_endpoint, defScope s_write_endpoint, [], [], []⟩,
  ⟨.g "read_endpoint", "read_endpoint", "read_endpoint", defArgs s_read_endpoint, defBody s_read_endpoint, defScope s_read_endpoint, [], [], []⟩,
  ⟨.g "write_socket", "write_socket", "write_socket", defArgs s_write_socket, defBody s_write_socket, defScope s_write_socket, [], [], []⟩,
  ⟨.g "read_socket", "read_socket", "read_socket", defArgs s_read_socket, defBody s_read_socket, defScope s_read_socket, [], [], []⟩,
  ⟨.g "write_packet", "write_packet", "write_packet", defArgs s_write_packet, defBody s_write_packet, defScope s_write_packet, [], [], []⟩,
  ⟨.g "read_packet", "read_packet", "read_packet", defArgs s_read_packet, defBody s_read_packet, defScope s_read_packet, [], [], []⟩,
  ⟨.g "write_line", "write_line", "write_line", defArgs s_write_line, defBody s_write_line, defScope s_write_line, [], [], []⟩,
  ⟨.g "save_host", "save_host", "save_host", defArgs s_save_host, defBody s_save_host, defScope s_save_host, [], [], []⟩,
  ⟨.g "read_number", "read_number", "read_number", defArgs s_read_number, defBody s_read_number, defScope s_read_number, [], [], []⟩,
  ⟨.m "LineReader" "__init__", "__init__", "LineReader.__init__", defArgs s_LineReader___init__, defBody s_LineReader___init__, defScope s_LineReader___init__, [], [], []⟩,
  ⟨.m "LineReader" "next_code", "next_code", "LineReader.next_code", defArgs s_LineReader_next_code, defBody s_LineReader_next_code, defScope s_LineReader_next_code, [], [], []⟩,
  ⟨.g "read_listener", "read_listener", "read_listener", defArgs s_read_listener, defBody s_read_listener, defScope s_read_listener, [], [], []⟩,
  ⟨.g "load_host", "load_host", "load_host", defArgs s_load_host, defBody s_load_host, defScope s_load_host, [], [], []⟩,
  ⟨.g "_law_rows", "_law_rows", "_law_rows", defArgs s__law_rows, defBody s__law_rows, defScope s__law_rows, [], [], []⟩]
def fn6 : List DefM := [⟨.g "_law_options", "_law_options", "_law_options", defArgs s__law_options, defBody s__law_options, defScope s__law_options, [], [], []⟩,
  ⟨.g "_law_head", "_law_head", "_law_head", defArgs s__law_head, defBody s__law_head, defScope s__law_head, [], [], []⟩,
  ⟨.g "_law_endpoint", "_law_endpoint", "_law_endpoint", defArgs s__law_endpoint, defBody s__law_endpoint, defScope s__law_endpoint, [], [], []⟩,
  ⟨.g "_law_shift", "_law_shift", "_law_shift", defArgs s__law_shift, defBody s__law_shift, defScope s__law_shift, [], [], []⟩,
  ⟨.g "_law_packet", "_law_packet", "_law_packet", defArgs s__law_packet, defBody s__law_packet, defScope s__law_packet, [], [], []⟩,
  ⟨.g "_law_line", "_law_line", "_law_line", defArgs s__law_line, defBody s__law_line, defScope s__law_line, [], [], []⟩,
  ⟨.g "_law_text", "_law_text", "_law_text", defArgs s__law_text, defBody s__law_text, defScope s__law_text, [], [], []⟩,
  ⟨.g "_law_socket", "_law_socket", "_law_socket", defArgs s__law_socket, defBody s__law_socket, defScope s__law_socket, [], [], []⟩,
  ⟨.g "_law_build", "_law_build", "_law_build", defArgs s__law_build, defBody s__law_build, defScope s__law_build, [], [], []⟩,
  ⟨.g "law", "law", "law", defArgs s_law, defBody s_law, defScope s_law, [], [], []⟩,
  ⟨.m "Cubic" "__init__", "__init__", "Cubic.__init__", defArgs s_Cubic___init__, defBody s_Cubic___init__, defScope s_Cubic___init__, [], [], (["__class__"] : List Str)⟩,
  ⟨.m "Reno" "__init__", "__init__", "Reno.__init__", defArgs s_Reno___init__, defBody s_Reno___init__, defScope s_Reno___init__, [], [], (["__class__"] : List Str)⟩]
def fn : List DefM := fn0 ++ (fn1 ++ (fn2 ++ (fn3 ++ (fn4 ++ (fn5 ++ (fn6))))))

/-- what the end of the top tells -/
abbrev AlM : Type := Bool × List He.FnW
def obsM (K : PySem.W.Frag) : AlM := ((fx.all fun f => f.ok K) && fn.all fun d => d.ok K, fn.map fun d => fnM K d.at_)
def valM : AlM := (true, fn.map DefM.val)
structure Wld (K : PySem.W.Frag) (mg : Str → Option Value) : Prop where
  says : obsM K = valM
  env : ∃ h : Heap, K.In h ∧ h.Ns mainGlobals mg
section
variable {K : PySem.W.Frag} {mg : Str → Option Value}
theorem Wld.fact (W : Wld K mg) (i : Nat) {f : Fx} (h : fx[i]? = some f) : f.ok K = true := by
  have c1 := (He.ba (show ((fx.all fun f => f.ok K) && fn.all fun d => d.ok K) = true from congrArg (fun z : AlM => z.1) W.says)).1
  exact List.all_eq_true.mp c1 f (List.mem_of_getElem? h)
theorem Wld.def_ (W : Wld K mg) (i : Nat) {d : DefM} (h : fn[i]? = some d) (hc : d.clo = []) : ∃ fd, FunD K d.name d.qual d.params d.body d.scope (d.dvs K) (d.kws K) (d.at_.ad K) fd := by
  have c2 := (He.ba (show ((fx.all fun f => f.ok K) && fn.all fun d => d.ok K) = true from congrArg (fun z : AlM => z.1) W.says)).2
  have e : fn.map (fun d => fnM K d.at_) = fn.map DefM.val := congrArg (fun z : AlM => z.2) W.says
  have e2 : (fn.map fun d => fnM K d.at_)[i]? = (fn.map DefM.val)[i]? := by rw [e]
  rw [List.getElem?_map, List.getElem?_map, h] at e2
  exact DefM.funD (Option.some.inj e2) (List.all_eq_true.mp c2 d (List.mem_of_getElem? h)) hc
theorem Wld.defS (W : Wld K mg) (i : Nat) {d : DefM} (h : fn[i]? = some d) (hc : d.clo = (["__class__"] : List Str)) : ∃ (oc : Value) (od : Option Addr) (dV kV doc pm : Value) (an : Option Addr) (cdv ct : Value) (osl : Array (Option Value)) (cc : Addr),
    K.lookup (d.at_.ad K) = some ⟨oc, od, .func (PySem.W.fnX d.name d.qual d.params d.body d.scope [("__class__", cc)] dV kV doc pm an cdv ct), osl⟩ ∧ PySem.W.codeIn K cdv d.qual = true ∧ DflV K dV (d.dvs K) := by
  have c2 := (He.ba (show ((fx.all fun f => f.ok K) && fn.all fun d => d.ok K) = true from congrArg (fun z : AlM => z.1) W.says)).2
  have e : fn.map (fun d => fnM K d.at_) = fn.map DefM.val := congrArg (fun z : AlM => z.2) W.says
  have e2 : (fn.map fun d => fnM K d.at_)[i]? = (fn.map DefM.val)[i]? := by rw [e]
  rw [List.getElem?_map, List.getElem?_map, h] at e2
  exact DefM.funS (Option.some.inj e2) (List.all_eq_true.mp c2 d (List.mem_of_getElem? h)) hc
theorem Wld.glo (W : Wld K mg) {x : Str} (c : (Fx.fa (.glo x)).ok K = true) : mg x = some (.ref (He.ga K x)) := by
  obtain ⟨h, X, G⟩ := W.env
  exact He.glo_ok X G c
theorem Wld.free (W : Wld K mg) {x : Str} (c : (Fx.fa (.free x)).ok K = true) : mg x = none := by
  obtain ⟨h, X, G⟩ := W.env
  exact He.free_ok X G c
theorem Wld.int (W : Wld K mg) {x : Str} {i : Int} (c : (Fx.fa (.int x i)).ok K = true) : ∃ t, mg x = some (.int i t) := by
  obtain ⟨h, X, G⟩ := W.env
  exact He.int_ok X G c
theorem Wld.str (W : Wld K mg) {x z : Str} (c : (Fx.fa (.str x z)).ok K = true) : ∃ t, mg x = some (.str z t) := by
  obtain ⟨h, X, G⟩ := W.env
  exact He.str_ok X G c
theorem Wld.fa (W : Wld K mg) {f : He.Fa} (c : (Fx.fa f).ok K = true) : f.ok K = true := c
theorem Wld.ok (W : Wld K mg) {f : Fx} (c : f.ok K = true) : f.ok K = true := c
theorem prop_ok {C f : Str} (c : (Fx.prop C f).ok K = true) : PropOf K (He.ga K C) f (He.ma K (He.ga K C) f) (prG K (He.ma K (He.ga K C) f)) := by
  obtain ⟨c1, c⟩ := He.ba c
  obtain ⟨c2, c⟩ := He.ba c
  obtain ⟨c3, c4⟩ := He.ba c
  refine ⟨He.eqO_ok c1, He.eqO_ok c2, of_decide_eq_true c3, ?_⟩
  have c5 : (match PySem.W.recIn K (He.ma K (He.ga K C) f) "property" with
        | some (.ref _ :: _) => true
        | _ => false) = true := c4
  unfold prG
  split at c5
  · rename_i g r e
    rw [e]
    exact ⟨r, rfl⟩
  · cases c5
theorem tup_ok {x : Str} {vs : List He.Dv} (c : (Fx.tup x vs).ok K = true) (H : Hp) : SqT K H (He.ga K x) (vs.map (He.Dv.v K)) := He.tupB_ok c H
theorem crd_ok {C : Str} (c : (Fx.crd C).ok K = true) : CRead K (He.ga K C) (.type "type") := by
  obtain ⟨c1, c2⟩ := He.ba c
  exact ⟨c1, He.eqO_ok c2⟩
theorem cvl_ok {C f : Str} {i : Int} (c : (Fx.cvl C f i).ok K = true) : ∃ u, CVal K (He.ga K C) (.type "type") f (.int i) u := by
  have c2 : (match PySem.W.findCls K (.ref (He.ga K C)) tyE f with
      | some (.val (.int j _)) => decide (j = i)
      | _ => false) = true := c
  split at c2
  · rename_i j t e
    have ej : j = i := of_decide_eq_true c2
    subst ej
    exact ⟨_, e, _, rfl⟩
  · cases c2
theorem isi_ok {C D : Str} {b : Bool} (c : (Fx.isi C D b).ok K = true) : PySem.W.kitOne K (.ref (He.ga K C)) (.ref (He.ga K D)) = some b := of_decide_eq_true c
theorem ety_ok {C a : Str} (c : (Fx.ety C a).ok K = true) (H : Hp) : SqT K H (dvAd K C a) [] := by
  have c2 : etyB K (dvAd K C a) = true := c
  unfold etyB at c2
  split at c2
  · rename_i cc dd its n sl e
    obtain ⟨h1, h2⟩ := He.ba c2
    have e2 : its = #[] := Array.size_eq_zero_iff.mp (of_decide_eq_true h2)
    subst e2
    exact .inr ⟨_, #[], n, e, congrArg Value.type (of_decide_eq_true h1), rfl, by decide, .nil⟩
  · cases c2
theorem tyo_ok {C : Str} (c : (Fx.tyo C).ok K = true) : PySem.W.findIn K (.ref (He.ga K C)) "__class__" = some (some (.builtin "object.__class__")) ∧ PySem.W.specialIn K (.builtin "object.__class__") "__get__" = some (some (.builtin "getset_descriptor.__get__")) ∧
    PySem.W.takesIn K (.builtin "object.__class__") = some true ∧ PySem.W.mroIn K (He.ga K C) (.type "object") = some true := by
  obtain ⟨c1, c⟩ := He.ba c
  obtain ⟨c2, c⟩ := He.ba c
  obtain ⟨c3, c4⟩ := He.ba c
  exact ⟨He.eqO_ok c1, He.eqO_ok c2, of_decide_eq_true c3, of_decide_eq_true c4⟩
theorem tty_ok {x : Str} (c : (Fx.tty x).ok K = true) : ∃ o, K.lookup (He.ga K x) = some o ∧ o.cls = .type "tuple" ∧ o.dict = none := by
  have c2 : ttyB K (He.ga K x) = true := c
  unfold ttyB at c2
  split at c2
  · rename_i cc dt sl e
    exact ⟨_, e, congrArg Value.type (of_decide_eq_true c2), rfl⟩
  · cases c2
theorem neo_ok {C : Str} (c : (Fx.neo C).ok K = true) : PySem.W.findIn K (.ref (He.ga K C)) "__ne__" = some (some (.builtin "object.__ne__")) := He.eqO_ok c
/-- what super() of an __init__ wants of the top -/
structure SupK (K : PySem.W.Frag) (C B cc : Addr) (cdv : Value) : Prop where
  cel : ∃ (cl : Value) (cld : Option Addr) (csl : Array (Option Value)), K.lookup cc = some ⟨cl, cld, .cell (some (.ref C)), csl⟩
  fil : ∃ (cda : Addr) (ccl : Value) (cdd : Option Addr) (vs : Array Value) (ccs : Array (Option Value)) (file : Str) (tf : Tok), cdv = .ref cda ∧ K.lookup cda = some ⟨ccl, cdd, .fields vs, ccs⟩ ∧ vs[2]? = some (.str file tf) ∧ ((mainF : Str) == file) = true
  cls : ∃ cd, PySem.W.clsIn K C = some cd
  sub : PySem.W.mroIn K C (.ref C) = some true
  at_ : PySem.W.ks_superIn K C C "__init__" = some (some (.ref (He.ma K B "__init__")))
  ty : PySem.W.typeIn K (.ref (He.ma K B "__init__")) = some (.type "function")
  fi : PySem.W.fnIn K (He.ma K B "__init__") = true
  opq : PySem.W.nsIn K cStatics "thirdparty.any" = some none
theorem sup_ok {C B : Str} (c : (Fx.sup C B).ok K = true) {oc : Value} {od : Option Addr} {fd : FuncData} {osl : Array (Option Value)} {cc : Addr} {y : Str} (hk : K.lookup (He.ma K (He.ga K C) "__init__") = some ⟨oc, od, .func fd, osl⟩) (hcl : fd.closure = [(y, cc)]) :
    SupK K (He.ga K C) (He.ga K B) cc fd.code := by
  obtain ⟨c1, c⟩ := He.ba (show ((match K.lookup (He.ma K (He.ga K C) "__init__") with
    | some ⟨_, _, .func fd, _⟩ => celB K (He.ga K C) fd.closure && filB K fd.code
    | _ => false) && _) = true from c)
  rw [hk] at c1
  obtain ⟨k1, k2⟩ := He.ba (show (celB K (He.ga K C) fd.closure && filB K fd.code) = true from c1)
  obtain ⟨c2, c⟩ := He.ba c
  obtain ⟨c3, c⟩ := He.ba c
  obtain ⟨c4, c⟩ := He.ba c
  obtain ⟨c5, c⟩ := He.ba c
  obtain ⟨c6, c7⟩ := He.ba c
  refine ⟨?_, ?_, Option.isSome_iff_exists.mp c2, of_decide_eq_true c3, He.eqO_ok c4, of_decide_eq_true c5, c6, He.eqO_ok c7⟩
  · rw [hcl] at k1
    have k1 : (match K.lookup cc with
      | some ⟨_, _, .cell (some (.ref E)), _⟩ => decide (E = He.ga K C)
      | _ => false) = true := k1
    split at k1
    · rename_i e
      have e2 := of_decide_eq_true k1
      rw [e2] at e
      exact ⟨_, _, _, e⟩
    · cases k1
  · unfold filB at k2
    split at k2
    · rename_i cda e1
      split at k2
      · rename_i e
        split at k2
        · rename_i e3
          exact ⟨cda, _, _, _, _, _, _, e1, e, e3, k2⟩
        · cases k2
      · cases k2
    · cases k2
theorem Wld.g_is_due (W : Wld K mg) : mg "is_due" = some (.ref (He.ga K "is_due")) := W.glo (W.fact 0 rfl)
theorem Wld.g_next_output (W : Wld K mg) : mg "next_output" = some (.ref (He.ga K "next_output")) := W.glo (W.fact 1 rfl)
theorem Wld.g_next_reset (W : Wld K mg) : mg "next_reset" = some (.ref (He.ga K "next_reset")) := W.glo (W.fact 2 rfl)
theorem Wld.g_allowance (W : Wld K mg) : mg "allowance" = some (.ref (He.ga K "allowance")) := W.glo (W.fact 3 rfl)
theorem Wld.g_spend (W : Wld K mg) : mg "spend" = some (.ref (He.ga K "spend")) := W.glo (W.fact 4 rfl)
theorem Wld.g_send (W : Wld K mg) : mg "send" = some (.ref (He.ga K "send")) := W.glo (W.fact 5 rfl)
theorem Wld.g_dress (W : Wld K mg) : mg "dress" = some (.ref (He.ga K "dress")) := W.glo (W.fact 6 rfl)
theorem Wld.g_next_phase (W : Wld K mg) : mg "next_phase" = some (.ref (He.ga K "next_phase")) := W.glo (W.fact 7 rfl)
theorem Wld.g_count_inside (W : Wld K mg) : mg "count_inside" = some (.ref (He.ga K "count_inside")) := W.glo (W.fact 8 rfl)
theorem Wld.g_first_free (W : Wld K mg) : mg "first_free" = some (.ref (He.ga K "first_free")) := W.glo (W.fact 9 rfl)
theorem Wld.g_make_control (W : Wld K mg) : mg "make_control" = some (.ref (He.ga K "make_control")) := W.glo (W.fact 10 rfl)
theorem Wld.g_write_maybe (W : Wld K mg) : mg "write_maybe" = some (.ref (He.ga K "write_maybe")) := W.glo (W.fact 11 rfl)
theorem Wld.g_write_many (W : Wld K mg) : mg "write_many" = some (.ref (He.ga K "write_many")) := W.glo (W.fact 12 rfl)
theorem Wld.g_write_pairs (W : Wld K mg) : mg "write_pairs" = some (.ref (He.ga K "write_pairs")) := W.glo (W.fact 13 rfl)
theorem Wld.g_write_sender (W : Wld K mg) : mg "write_sender" = some (.ref (He.ga K "write_sender")) := W.glo (W.fact 14 rfl)
theorem Wld.g_read_sender (W : Wld K mg) : mg "read_sender" = some (.ref (He.ga K "read_sender")) := W.glo (W.fact 15 rfl)
theorem Wld.g_write_receiver (W : Wld K mg) : mg "write_receiver" = some (.ref (He.ga K "write_receiver")) := W.glo (W.fact 16 rfl)
theorem Wld.g_read_receiver (W : Wld K mg) : mg "read_receiver" = some (.ref (He.ga K "read_receiver")) := W.glo (W.fact 17 rfl)
theorem Wld.g_write_trip (W : Wld K mg) : mg "write_trip" = some (.ref (He.ga K "write_trip")) := W.glo (W.fact 18 rfl)
theorem Wld.g_read_trip (W : Wld K mg) : mg "read_trip" = some (.ref (He.ga K "read_trip")) := W.glo (W.fact 19 rfl)
theorem Wld.g_write_control (W : Wld K mg) : mg "write_control" = some (.ref (He.ga K "write_control")) := W.glo (W.fact 20 rfl)
theorem Wld.g_read_control (W : Wld K mg) : mg "read_control" = some (.ref (He.ga K "read_control")) := W.glo (W.fact 21 rfl)
theorem Wld.g_wrap (W : Wld K mg) : mg "wrap" = some (.ref (He.ga K "wrap")) := W.glo (W.fact 22 rfl)
theorem Wld.g_octet_sum (W : Wld K mg) : mg "octet_sum" = some (.ref (He.ga K "octet_sum")) := W.glo (W.fact 23 rfl)
theorem Wld.g_checksum (W : Wld K mg) : mg "checksum" = some (.ref (He.ga K "checksum")) := W.glo (W.fact 24 rfl)
theorem Wld.g_write_number (W : Wld K mg) : mg "write_number" = some (.ref (He.ga K "write_number")) := W.glo (W.fact 25 rfl)
theorem Wld.g_write_option (W : Wld K mg) : mg "write_option" = some (.ref (He.ga K "write_option")) := W.glo (W.fact 26 rfl)
theorem Wld.g_write_pair (W : Wld K mg) : mg "write_pair" = some (.ref (He.ga K "write_pair")) := W.glo (W.fact 27 rfl)
theorem Wld.g_plain_options (W : Wld K mg) : mg "plain_options" = some (.ref (He.ga K "plain_options")) := W.glo (W.fact 28 rfl)
theorem Wld.g_fitting_ranges (W : Wld K mg) : mg "fitting_ranges" = some (.ref (He.ga K "fitting_ranges")) := W.glo (W.fact 29 rfl)
theorem Wld.g_write_options_options (W : Wld K mg) : mg "write_options_options" = some (.ref (He.ga K "write_options_options")) := W.glo (W.fact 30 rfl)
theorem Wld.g_flags_of (W : Wld K mg) : mg "flags_of" = some (.ref (He.ga K "flags_of")) := W.glo (W.fact 31 rfl)
theorem Wld.g_encode (W : Wld K mg) : mg "encode" = some (.ref (He.ga K "encode")) := W.glo (W.fact 32 rfl)
theorem Wld.g_check_port (W : Wld K mg) : mg "check_port" = some (.ref (He.ga K "check_port")) := W.glo (W.fact 33 rfl)
theorem Wld.g_write_options_saved (W : Wld K mg) : mg "write_options_saved" = some (.ref (He.ga K "write_options_saved")) := W.glo (W.fact 34 rfl)
theorem Wld.g_read_options (W : Wld K mg) : mg "read_options" = some (.ref (He.ga K "read_options")) := W.glo (W.fact 35 rfl)
theorem Wld.g_write_endpoint (W : Wld K mg) : mg "write_endpoint" = some (.ref (He.ga K "write_endpoint")) := W.glo (W.fact 36 rfl)
theorem Wld.g_read_endpoint (W : Wld K mg) : mg "read_endpoint" = some (.ref (He.ga K "read_endpoint")) := W.glo (W.fact 37 rfl)
theorem Wld.g_write_socket (W : Wld K mg) : mg "write_socket" = some (.ref (He.ga K "write_socket")) := W.glo (W.fact 38 rfl)
theorem Wld.g_read_socket (W : Wld K mg) : mg "read_socket" = some (.ref (He.ga K "read_socket")) := W.glo (W.fact 39 rfl)
theorem Wld.g_write_packet (W : Wld K mg) : mg "write_packet" = some (.ref (He.ga K "write_packet")) := W.glo (W.fact 40 rfl)
theorem Wld.g_read_packet (W : Wld K mg) : mg "read_packet" = some (.ref (He.ga K "read_packet")) := W.glo (W.fact 41 rfl)
theorem Wld.g_write_line (W : Wld K mg) : mg "write_line" = some (.ref (He.ga K "write_line")) := W.glo (W.fact 42 rfl)
theorem Wld.g_save_host (W : Wld K mg) : mg "save_host" = some (.ref (He.ga K "save_host")) := W.glo (W.fact 43 rfl)
theorem Wld.g_read_number (W : Wld K mg) : mg "read_number" = some (.ref (He.ga K "read_number")) := W.glo (W.fact 44 rfl)
theorem Wld.g_read_listener (W : Wld K mg) : mg "read_listener" = some (.ref (He.ga K "read_listener")) := W.glo (W.fact 45 rfl)
theorem Wld.g_load_host (W : Wld K mg) : mg "load_host" = some (.ref (He.ga K "load_host")) := W.glo (W.fact 46 rfl)
theorem Wld.g__law_rows (W : Wld K mg) : mg "_law_rows" = some (.ref (He.ga K "_law_rows")) := W.glo (W.fact 47 rfl)
theorem Wld.g__law_options (W : Wld K mg) : mg "_law_options" = some (.ref (He.ga K "_law_options")) := W.glo (W.fact 48 rfl)
theorem Wld.g__law_head (W : Wld K mg) : mg "_law_head" = some (.ref (He.ga K "_law_head")) := W.glo (W.fact 49 rfl)
theorem Wld.g__law_endpoint (W : Wld K mg) : mg "_law_endpoint" = some (.ref (He.ga K "_law_endpoint")) := W.glo (W.fact 50 rfl)
theorem Wld.g__law_shift (W : Wld K mg) : mg "_law_shift" = some (.ref (He.ga K "_law_shift")) := W.glo (W.fact 51 rfl)
theorem Wld.g__law_packet (W : Wld K mg) : mg "_law_packet" = some (.ref (He.ga K "_law_packet")) := W.glo (W.fact 52 rfl)
theorem Wld.g__law_line (W : Wld K mg) : mg "_law_line" = some (.ref (He.ga K "_law_line")) := W.glo (W.fact 53 rfl)
theorem Wld.g__law_text (W : Wld K mg) : mg "_law_text" = some (.ref (He.ga K "_law_text")) := W.glo (W.fact 54 rfl)
theorem Wld.g__law_socket (W : Wld K mg) : mg "_law_socket" = some (.ref (He.ga K "_law_socket")) := W.glo (W.fact 55 rfl)
theorem Wld.g__law_build (W : Wld K mg) : mg "_law_build" = some (.ref (He.ga K "_law_build")) := W.glo (W.fact 56 rfl)
theorem Wld.g_law (W : Wld K mg) : mg "law" = some (.ref (He.ga K "law")) := W.glo (W.fact 57 rfl)
theorem Wld.g_Piece (W : Wld K mg) : mg "Piece" = some (.ref (He.ga K "Piece")) := W.glo (W.fact 58 rfl)
theorem Wld.g_Cubic (W : Wld K mg) : mg "Cubic" = some (.ref (He.ga K "Cubic")) := W.glo (W.fact 59 rfl)
theorem Wld.g_Reno (W : Wld K mg) : mg "Reno" = some (.ref (He.ga K "Reno")) := W.glo (W.fact 60 rfl)
theorem Wld.g_RoundTrip (W : Wld K mg) : mg "RoundTrip" = some (.ref (He.ga K "RoundTrip")) := W.glo (W.fact 61 rfl)
theorem Wld.g_Receiver (W : Wld K mg) : mg "Receiver" = some (.ref (He.ga K "Receiver")) := W.glo (W.fact 62 rfl)
theorem Wld.g_Sender (W : Wld K mg) : mg "Sender" = some (.ref (He.ga K "Sender")) := W.glo (W.fact 63 rfl)
theorem Wld.g_Endpoint (W : Wld K mg) : mg "Endpoint" = some (.ref (He.ga K "Endpoint")) := W.glo (W.fact 64 rfl)
theorem Wld.g_CodeReader (W : Wld K mg) : mg "CodeReader" = some (.ref (He.ga K "CodeReader")) := W.glo (W.fact 65 rfl)
theorem Wld.g_Packet (W : Wld K mg) : mg "Packet" = some (.ref (He.ga K "Packet")) := W.glo (W.fact 66 rfl)
theorem Wld.g_Segment (W : Wld K mg) : mg "Segment" = some (.ref (He.ga K "Segment")) := W.glo (W.fact 67 rfl)
theorem Wld.g_Socket (W : Wld K mg) : mg "Socket" = some (.ref (He.ga K "Socket")) := W.glo (W.fact 68 rfl)
theorem Wld.g_Host (W : Wld K mg) : mg "Host" = some (.ref (He.ga K "Host")) := W.glo (W.fact 69 rfl)
theorem Wld.g_Options (W : Wld K mg) : mg "Options" = some (.ref (He.ga K "Options")) := W.glo (W.fact 70 rfl)
theorem Wld.g_LineReader (W : Wld K mg) : mg "LineReader" = some (.ref (He.ga K "LineReader")) := W.glo (W.fact 71 rfl)
theorem Wld.g_Control (W : Wld K mg) : mg "Control" = some (.ref (He.ga K "Control")) := W.glo (W.fact 72 rfl)
theorem Wld.g_CAUSES (W : Wld K mg) : mg "CAUSES" = some (.ref (He.ga K "CAUSES")) := W.glo (W.fact 73 rfl)
theorem Wld.g_CONTROLS (W : Wld K mg) : mg "CONTROLS" = some (.ref (He.ga K "CONTROLS")) := W.glo (W.fact 74 rfl)
theorem Wld.g_PHASES (W : Wld K mg) : mg "PHASES" = some (.ref (He.ga K "PHASES")) := W.glo (W.fact 75 rfl)
theorem Wld.f_enumerate (W : Wld K mg) : mg "enumerate" = none := W.free (W.fact 76 rfl)
theorem Wld.f_int (W : Wld K mg) : mg "int" = none := W.free (W.fact 77 rfl)
theorem Wld.f_isinstance (W : Wld K mg) : mg "isinstance" = none := W.free (W.fact 78 rfl)
theorem Wld.f_len (W : Wld K mg) : mg "len" = none := W.free (W.fact 79 rfl)
theorem Wld.f_list (W : Wld K mg) : mg "list" = none := W.free (W.fact 80 rfl)
theorem Wld.f_max (W : Wld K mg) : mg "max" = none := W.free (W.fact 81 rfl)
theorem Wld.f_min (W : Wld K mg) : mg "min" = none := W.free (W.fact 82 rfl)
theorem Wld.f_range (W : Wld K mg) : mg "range" = none := W.free (W.fact 83 rfl)
theorem Wld.f_sorted (W : Wld K mg) : mg "sorted" = none := W.free (W.fact 84 rfl)
theorem Wld.f_str (W : Wld K mg) : mg "str" = none := W.free (W.fact 85 rfl)
theorem Wld.f_super (W : Wld K mg) : mg "super" = none := W.free (W.fact 86 rfl)
theorem Wld.f_tuple (W : Wld K mg) : mg "tuple" = none := W.free (W.fact 87 rfl)
theorem Wld.i_CIRCLE_leaving (W : Wld K mg) : ∃ t, mg "CIRCLE_leaving" = some (.int 4294967296 t) := W.int (W.fact 88 rfl)
theorem Wld.i_WRAP (W : Wld K mg) : ∃ t, mg "WRAP" = some (.int 4294967296 t) := W.int (W.fact 89 rfl)
theorem Wld.i_CIRCLE_socket (W : Wld K mg) : ∃ t, mg "CIRCLE_socket" = some (.int 4294967296 t) := W.int (W.fact 90 rfl)
theorem Wld.i_FACTOR (W : Wld K mg) : ∃ t, mg "FACTOR" = some (.int 2654435761 t) := W.int (W.fact 91 rfl)
theorem Wld.i_MODULUS (W : Wld K mg) : ∃ t, mg "MODULUS" = some (.int 65535 t) := W.int (W.fact 92 rfl)
theorem Wld.i_MOST (W : Wld K mg) : ∃ t, mg "MOST" = some (.int 40 t) := W.int (W.fact 93 rfl)
theorem Wld.i_HEADER (W : Wld K mg) : ∃ t, mg "HEADER" = some (.int 20 t) := W.int (W.fact 94 rfl)
theorem Wld.i_GREATEST (W : Wld K mg) : ∃ t, mg "GREATEST" = some (.int 1073741824 t) := W.int (W.fact 95 rfl)
theorem Wld.i_TITLE (W : Wld K mg) : ∃ t, mg "TITLE" = some (.str "throughline host 1" t) := W.str (W.fact 96 rfl)
theorem Wld.i_DIGITS (W : Wld K mg) : ∃ t, mg "DIGITS" = some (.str "0123456789" t) := W.str (W.fact 97 rfl)
theorem Wld.c_Piece (W : Wld K mg) : Cls K (He.ga K "Piece") := He.cls_ok (W.fa (W.fact 98 rfl))
theorem Wld.n_Piece_start (W : Wld K mg) : NoAttr K (He.ga K "Piece") "start" := He.noat_ok (W.fa (W.fact 99 rfl))
theorem Wld.n_Piece_data (W : Wld K mg) : NoAttr K (He.ga K "Piece") "data" := He.noat_ok (W.fa (W.fact 100 rfl))
theorem Wld.n_Piece_syn (W : Wld K mg) : NoAttr K (He.ga K "Piece") "syn" := He.noat_ok (W.fa (W.fact 101 rfl))
theorem Wld.n_Piece_fin (W : Wld K mg) : NoAttr K (He.ga K "Piece") "fin" := He.noat_ok (W.fa (W.fact 102 rfl))
theorem Wld.n_Piece_reset (W : Wld K mg) : NoAttr K (He.ga K "Piece") "reset" := He.noat_ok (W.fa (W.fact 103 rfl))
theorem Wld.n_Piece_ack (W : Wld K mg) : NoAttr K (He.ga K "Piece") "ack" := He.noat_ok (W.fa (W.fact 104 rfl))
theorem Wld.n_Piece_window (W : Wld K mg) : NoAttr K (He.ga K "Piece") "window" := He.noat_ok (W.fa (W.fact 105 rfl))
theorem Wld.n_Piece_ranges (W : Wld K mg) : NoAttr K (He.ga K "Piece") "ranges" := He.noat_ok (W.fa (W.fact 106 rfl))
theorem Wld.n_Piece_marked (W : Wld K mg) : NoAttr K (He.ga K "Piece") "marked" := He.noat_ok (W.fa (W.fact 107 rfl))
theorem Wld.n_Piece_cut (W : Wld K mg) : NoAttr K (He.ga K "Piece") "cut" := He.noat_ok (W.fa (W.fact 108 rfl))
theorem Wld.n_Piece_stamp (W : Wld K mg) : NoAttr K (He.ga K "Piece") "stamp" := He.noat_ok (W.fa (W.fact 109 rfl))
theorem Wld.c_Cubic (W : Wld K mg) : Cls K (He.ga K "Cubic") := He.cls_ok (W.fa (W.fact 110 rfl))
theorem Wld.n_Cubic_cwnd (W : Wld K mg) : NoAttr K (He.ga K "Cubic") "cwnd" := He.noat_ok (W.fa (W.fact 111 rfl))
theorem Wld.n_Cubic_thresh (W : Wld K mg) : NoAttr K (He.ga K "Cubic") "thresh" := He.noat_ok (W.fa (W.fact 112 rfl))
theorem Wld.n_Cubic_peak (W : Wld K mg) : NoAttr K (He.ga K "Cubic") "peak" := He.noat_ok (W.fa (W.fact 113 rfl))
theorem Wld.n_Cubic_prior (W : Wld K mg) : NoAttr K (He.ga K "Cubic") "prior" := He.noat_ok (W.fa (W.fact 114 rfl))
theorem Wld.n_Cubic_calm (W : Wld K mg) : NoAttr K (He.ga K "Cubic") "calm" := He.noat_ok (W.fa (W.fact 115 rfl))
theorem Wld.n_Cubic_period (W : Wld K mg) : NoAttr K (He.ga K "Cubic") "period" := He.noat_ok (W.fa (W.fact 116 rfl))
theorem Wld.c_Reno (W : Wld K mg) : Cls K (He.ga K "Reno") := He.cls_ok (W.fa (W.fact 117 rfl))
theorem Wld.n_Reno_cwnd (W : Wld K mg) : NoAttr K (He.ga K "Reno") "cwnd" := He.noat_ok (W.fa (W.fact 118 rfl))
theorem Wld.n_Reno_thresh (W : Wld K mg) : NoAttr K (He.ga K "Reno") "thresh" := He.noat_ok (W.fa (W.fact 119 rfl))
theorem Wld.n_Reno_peak (W : Wld K mg) : NoAttr K (He.ga K "Reno") "peak" := He.noat_ok (W.fa (W.fact 120 rfl))
theorem Wld.n_Reno_prior (W : Wld K mg) : NoAttr K (He.ga K "Reno") "prior" := He.noat_ok (W.fa (W.fact 121 rfl))
theorem Wld.n_Reno_calm (W : Wld K mg) : NoAttr K (He.ga K "Reno") "calm" := He.noat_ok (W.fa (W.fact 122 rfl))
theorem Wld.n_Reno_credit (W : Wld K mg) : NoAttr K (He.ga K "Reno") "credit" := He.noat_ok (W.fa (W.fact 123 rfl))
theorem Wld.c_RoundTrip (W : Wld K mg) : Cls K (He.ga K "RoundTrip") := He.cls_ok (W.fa (W.fact 124 rfl))
theorem Wld.n_RoundTrip_least (W : Wld K mg) : NoAttr K (He.ga K "RoundTrip") "least" := He.noat_ok (W.fa (W.fact 125 rfl))
theorem Wld.n_RoundTrip_most (W : Wld K mg) : NoAttr K (He.ga K "RoundTrip") "most" := He.noat_ok (W.fa (W.fact 126 rfl))
theorem Wld.n_RoundTrip_srtt (W : Wld K mg) : NoAttr K (He.ga K "RoundTrip") "srtt" := He.noat_ok (W.fa (W.fact 127 rfl))
theorem Wld.n_RoundTrip_variance (W : Wld K mg) : NoAttr K (He.ga K "RoundTrip") "variance" := He.noat_ok (W.fa (W.fact 128 rfl))
theorem Wld.n_RoundTrip_measured (W : Wld K mg) : NoAttr K (He.ga K "RoundTrip") "measured" := He.noat_ok (W.fa (W.fact 129 rfl))
theorem Wld.n_RoundTrip_rto (W : Wld K mg) : NoAttr K (He.ga K "RoundTrip") "rto" := He.noat_ok (W.fa (W.fact 130 rfl))
theorem Wld.c_Receiver (W : Wld K mg) : Cls K (He.ga K "Receiver") := He.cls_ok (W.fa (W.fact 131 rfl))
theorem Wld.n_Receiver_room (W : Wld K mg) : NoAttr K (He.ga K "Receiver") "room" := He.noat_ok (W.fa (W.fact 132 rfl))
theorem Wld.n_Receiver_nxt (W : Wld K mg) : NoAttr K (He.ga K "Receiver") "nxt" := He.noat_ok (W.fa (W.fact 133 rfl))
theorem Wld.n_Receiver_edge (W : Wld K mg) : NoAttr K (He.ga K "Receiver") "edge" := He.noat_ok (W.fa (W.fact 134 rfl))
theorem Wld.n_Receiver_end (W : Wld K mg) : NoAttr K (He.ga K "Receiver") "end" := He.noat_ok (W.fa (W.fact 135 rfl))
theorem Wld.n_Receiver_recent (W : Wld K mg) : NoAttr K (He.ga K "Receiver") "recent" := He.noat_ok (W.fa (W.fact 136 rfl))
theorem Wld.n_Receiver__ready (W : Wld K mg) : NoAttr K (He.ga K "Receiver") "_ready" := He.noat_ok (W.fa (W.fact 137 rfl))
theorem Wld.n_Receiver__held (W : Wld K mg) : NoAttr K (He.ga K "Receiver") "_held" := He.noat_ok (W.fa (W.fact 138 rfl))
theorem Wld.c_Sender (W : Wld K mg) : Cls K (He.ga K "Sender") := He.cls_ok (W.fa (W.fact 139 rfl))
theorem Wld.n_Sender_room (W : Wld K mg) : NoAttr K (He.ga K "Sender") "room" := He.noat_ok (W.fa (W.fact 140 rfl))
theorem Wld.n_Sender_una (W : Wld K mg) : NoAttr K (He.ga K "Sender") "una" := He.noat_ok (W.fa (W.fact 141 rfl))
theorem Wld.n_Sender_nxt (W : Wld K mg) : NoAttr K (He.ga K "Sender") "nxt" := He.noat_ok (W.fa (W.fact 142 rfl))
theorem Wld.n_Sender_written (W : Wld K mg) : NoAttr K (He.ga K "Sender") "written" := He.noat_ok (W.fa (W.fact 143 rfl))
theorem Wld.n_Sender_finished (W : Wld K mg) : NoAttr K (He.ga K "Sender") "finished" := He.noat_ok (W.fa (W.fact 144 rfl))
theorem Wld.n_Sender_edge (W : Wld K mg) : NoAttr K (He.ga K "Sender") "edge" := He.noat_ok (W.fa (W.fact 145 rfl))
theorem Wld.n_Sender_recovery (W : Wld K mg) : NoAttr K (He.ga K "Sender") "recovery" := He.noat_ok (W.fa (W.fact 146 rfl))
theorem Wld.n_Sender_resend (W : Wld K mg) : NoAttr K (He.ga K "Sender") "resend" := He.noat_ok (W.fa (W.fact 147 rfl))
theorem Wld.n_Sender_lost (W : Wld K mg) : NoAttr K (He.ga K "Sender") "lost" := He.noat_ok (W.fa (W.fact 148 rfl))
theorem Wld.n_Sender_repeated (W : Wld K mg) : NoAttr K (He.ga K "Sender") "repeated" := He.noat_ok (W.fa (W.fact 149 rfl))
theorem Wld.n_Sender__queue (W : Wld K mg) : NoAttr K (He.ga K "Sender") "_queue" := He.noat_ok (W.fa (W.fact 150 rfl))
theorem Wld.n_Sender__sacked (W : Wld K mg) : NoAttr K (He.ga K "Sender") "_sacked" := He.noat_ok (W.fa (W.fact 151 rfl))
theorem Wld.c_Endpoint (W : Wld K mg) : Cls K (He.ga K "Endpoint") := He.cls_ok (W.fa (W.fact 152 rfl))
theorem Wld.n_Endpoint_options (W : Wld K mg) : NoAttr K (He.ga K "Endpoint") "options" := He.noat_ok (W.fa (W.fact 153 rfl))
theorem Wld.n_Endpoint_sender (W : Wld K mg) : NoAttr K (He.ga K "Endpoint") "sender" := He.noat_ok (W.fa (W.fact 154 rfl))
theorem Wld.n_Endpoint_receiver (W : Wld K mg) : NoAttr K (He.ga K "Endpoint") "receiver" := He.noat_ok (W.fa (W.fact 155 rfl))
theorem Wld.n_Endpoint_trip (W : Wld K mg) : NoAttr K (He.ga K "Endpoint") "trip" := He.noat_ok (W.fa (W.fact 156 rfl))
theorem Wld.n_Endpoint_control (W : Wld K mg) : NoAttr K (He.ga K "Endpoint") "control" := He.noat_ok (W.fa (W.fact 157 rfl))
theorem Wld.n_Endpoint_phase (W : Wld K mg) : NoAttr K (He.ga K "Endpoint") "phase" := He.noat_ok (W.fa (W.fact 158 rfl))
theorem Wld.n_Endpoint_cause (W : Wld K mg) : NoAttr K (He.ga K "Endpoint") "cause" := He.noat_ok (W.fa (W.fact 159 rfl))
theorem Wld.n_Endpoint_mss (W : Wld K mg) : NoAttr K (He.ga K "Endpoint") "mss" := He.noat_ok (W.fa (W.fact 160 rfl))
theorem Wld.n_Endpoint_selective (W : Wld K mg) : NoAttr K (He.ga K "Endpoint") "selective" := He.noat_ok (W.fa (W.fact 161 rfl))
theorem Wld.n_Endpoint_alarm (W : Wld K mg) : NoAttr K (He.ga K "Endpoint") "alarm" := He.noat_ok (W.fa (W.fact 162 rfl))
theorem Wld.n_Endpoint_since (W : Wld K mg) : NoAttr K (He.ga K "Endpoint") "since" := He.noat_ok (W.fa (W.fact 163 rfl))
theorem Wld.n_Endpoint_ack_at (W : Wld K mg) : NoAttr K (He.ga K "Endpoint") "ack_at" := He.noat_ok (W.fa (W.fact 164 rfl))
theorem Wld.n_Endpoint_late (W : Wld K mg) : NoAttr K (He.ga K "Endpoint") "late" := He.noat_ok (W.fa (W.fact 165 rfl))
theorem Wld.n_Endpoint_asked (W : Wld K mg) : NoAttr K (He.ga K "Endpoint") "asked" := He.noat_ok (W.fa (W.fact 166 rfl))
theorem Wld.n_Endpoint_again (W : Wld K mg) : NoAttr K (He.ga K "Endpoint") "again" := He.noat_ok (W.fa (W.fact 167 rfl))
theorem Wld.n_Endpoint_probe (W : Wld K mg) : NoAttr K (He.ga K "Endpoint") "probe" := He.noat_ok (W.fa (W.fact 168 rfl))
theorem Wld.n_Endpoint_over (W : Wld K mg) : NoAttr K (He.ga K "Endpoint") "over" := He.noat_ok (W.fa (W.fact 169 rfl))
theorem Wld.n_Endpoint_rest (W : Wld K mg) : NoAttr K (He.ga K "Endpoint") "rest" := He.noat_ok (W.fa (W.fact 170 rfl))
theorem Wld.n_Endpoint_spent_at (W : Wld K mg) : NoAttr K (He.ga K "Endpoint") "spent_at" := He.noat_ok (W.fa (W.fact 171 rfl))
theorem Wld.n_Endpoint_spent (W : Wld K mg) : NoAttr K (He.ga K "Endpoint") "spent" := He.noat_ok (W.fa (W.fact 172 rfl))
theorem Wld.n_Endpoint_stamp (W : Wld K mg) : NoAttr K (He.ga K "Endpoint") "stamp" := He.noat_ok (W.fa (W.fact 173 rfl))
theorem Wld.n_Endpoint_marked (W : Wld K mg) : NoAttr K (He.ga K "Endpoint") "marked" := He.noat_ok (W.fa (W.fact 174 rfl))
theorem Wld.n_Endpoint_cut (W : Wld K mg) : NoAttr K (He.ga K "Endpoint") "cut" := He.noat_ok (W.fa (W.fact 175 rfl))
theorem Wld.c_CodeReader (W : Wld K mg) : Cls K (He.ga K "CodeReader") := He.cls_ok (W.fa (W.fact 176 rfl))
theorem Wld.n_CodeReader_numbers (W : Wld K mg) : NoAttr K (He.ga K "CodeReader") "numbers" := He.noat_ok (W.fa (W.fact 177 rfl))
theorem Wld.n_CodeReader_line (W : Wld K mg) : NoAttr K (He.ga K "CodeReader") "line" := He.noat_ok (W.fa (W.fact 178 rfl))
theorem Wld.n_CodeReader_at (W : Wld K mg) : NoAttr K (He.ga K "CodeReader") "at" := He.noat_ok (W.fa (W.fact 179 rfl))
theorem Wld.c_Packet (W : Wld K mg) : Cls K (He.ga K "Packet") := He.cls_ok (W.fa (W.fact 180 rfl))
theorem Wld.n_Packet_sender (W : Wld K mg) : NoAttr K (He.ga K "Packet") "sender" := He.noat_ok (W.fa (W.fact 181 rfl))
theorem Wld.n_Packet_target (W : Wld K mg) : NoAttr K (He.ga K "Packet") "target" := He.noat_ok (W.fa (W.fact 182 rfl))
theorem Wld.n_Packet_octets (W : Wld K mg) : NoAttr K (He.ga K "Packet") "octets" := He.noat_ok (W.fa (W.fact 183 rfl))
theorem Wld.n_Packet_marked (W : Wld K mg) : NoAttr K (He.ga K "Packet") "marked" := He.noat_ok (W.fa (W.fact 184 rfl))
theorem Wld.c_Segment (W : Wld K mg) : Cls K (He.ga K "Segment") := He.cls_ok (W.fa (W.fact 185 rfl))
theorem Wld.n_Segment_source (W : Wld K mg) : NoAttr K (He.ga K "Segment") "source" := He.noat_ok (W.fa (W.fact 186 rfl))
theorem Wld.n_Segment_target (W : Wld K mg) : NoAttr K (He.ga K "Segment") "target" := He.noat_ok (W.fa (W.fact 187 rfl))
theorem Wld.n_Segment_seq (W : Wld K mg) : NoAttr K (He.ga K "Segment") "seq" := He.noat_ok (W.fa (W.fact 188 rfl))
theorem Wld.n_Segment_count (W : Wld K mg) : NoAttr K (He.ga K "Segment") "count" := He.noat_ok (W.fa (W.fact 189 rfl))
theorem Wld.n_Segment_echo (W : Wld K mg) : NoAttr K (He.ga K "Segment") "echo" := He.noat_ok (W.fa (W.fact 190 rfl))
theorem Wld.n_Segment_ack (W : Wld K mg) : NoAttr K (He.ga K "Segment") "ack" := He.noat_ok (W.fa (W.fact 191 rfl))
theorem Wld.n_Segment_syn (W : Wld K mg) : NoAttr K (He.ga K "Segment") "syn" := He.noat_ok (W.fa (W.fact 192 rfl))
theorem Wld.n_Segment_fin (W : Wld K mg) : NoAttr K (He.ga K "Segment") "fin" := He.noat_ok (W.fa (W.fact 193 rfl))
theorem Wld.n_Segment_reset (W : Wld K mg) : NoAttr K (He.ga K "Segment") "reset" := He.noat_ok (W.fa (W.fact 194 rfl))
theorem Wld.n_Segment_marked (W : Wld K mg) : NoAttr K (He.ga K "Segment") "marked" := He.noat_ok (W.fa (W.fact 195 rfl))
theorem Wld.n_Segment_cut (W : Wld K mg) : NoAttr K (He.ga K "Segment") "cut" := He.noat_ok (W.fa (W.fact 196 rfl))
theorem Wld.n_Segment_window (W : Wld K mg) : NoAttr K (He.ga K "Segment") "window" := He.noat_ok (W.fa (W.fact 197 rfl))
theorem Wld.n_Segment_mss (W : Wld K mg) : NoAttr K (He.ga K "Segment") "mss" := He.noat_ok (W.fa (W.fact 198 rfl))
theorem Wld.n_Segment_scale (W : Wld K mg) : NoAttr K (He.ga K "Segment") "scale" := He.noat_ok (W.fa (W.fact 199 rfl))
theorem Wld.n_Segment_ranges_known (W : Wld K mg) : NoAttr K (He.ga K "Segment") "ranges_known" := He.noat_ok (W.fa (W.fact 200 rfl))
theorem Wld.n_Segment_ranges (W : Wld K mg) : NoAttr K (He.ga K "Segment") "ranges" := He.noat_ok (W.fa (W.fact 201 rfl))
theorem Wld.n_Segment_stamp (W : Wld K mg) : NoAttr K (He.ga K "Segment") "stamp" := He.noat_ok (W.fa (W.fact 202 rfl))
theorem Wld.n_Segment_data (W : Wld K mg) : NoAttr K (He.ga K "Segment") "data" := He.noat_ok (W.fa (W.fact 203 rfl))
theorem Wld.c_Socket (W : Wld K mg) : Cls K (He.ga K "Socket") := He.cls_ok (W.fa (W.fact 204 rfl))
theorem Wld.n_Socket_count (W : Wld K mg) : NoAttr K (He.ga K "Socket") "count" := He.noat_ok (W.fa (W.fact 205 rfl))
theorem Wld.n_Socket_port (W : Wld K mg) : NoAttr K (He.ga K "Socket") "port" := He.noat_ok (W.fa (W.fact 206 rfl))
theorem Wld.n_Socket_peer (W : Wld K mg) : NoAttr K (He.ga K "Socket") "peer" := He.noat_ok (W.fa (W.fact 207 rfl))
theorem Wld.n_Socket_peer_port (W : Wld K mg) : NoAttr K (He.ga K "Socket") "peer_port" := He.noat_ok (W.fa (W.fact 208 rfl))
theorem Wld.n_Socket_peer_count (W : Wld K mg) : NoAttr K (He.ga K "Socket") "peer_count" := He.noat_ok (W.fa (W.fact 209 rfl))
theorem Wld.n_Socket_peer_first (W : Wld K mg) : NoAttr K (He.ga K "Socket") "peer_first" := He.noat_ok (W.fa (W.fact 210 rfl))
theorem Wld.n_Socket_peer_shift (W : Wld K mg) : NoAttr K (He.ga K "Socket") "peer_shift" := He.noat_ok (W.fa (W.fact 211 rfl))
theorem Wld.n_Socket_listened (W : Wld K mg) : NoAttr K (He.ga K "Socket") "listened" := He.noat_ok (W.fa (W.fact 212 rfl))
theorem Wld.n_Socket_accepted (W : Wld K mg) : NoAttr K (He.ga K "Socket") "accepted" := He.noat_ok (W.fa (W.fact 213 rfl))
theorem Wld.n_Socket_endpoint (W : Wld K mg) : NoAttr K (He.ga K "Socket") "endpoint" := He.noat_ok (W.fa (W.fact 214 rfl))
theorem Wld.c_Host (W : Wld K mg) : Cls K (He.ga K "Host") := He.cls_ok (W.fa (W.fact 215 rfl))
theorem Wld.n_Host_address (W : Wld K mg) : NoAttr K (He.ga K "Host") "address" := He.noat_ok (W.fa (W.fact 216 rfl))
theorem Wld.n_Host_options (W : Wld K mg) : NoAttr K (He.ga K "Host") "options" := He.noat_ok (W.fa (W.fact 217 rfl))
theorem Wld.n_Host_counter (W : Wld K mg) : NoAttr K (He.ga K "Host") "counter" := He.noat_ok (W.fa (W.fact 218 rfl))
theorem Wld.n_Host_now (W : Wld K mg) : NoAttr K (He.ga K "Host") "now" := He.noat_ok (W.fa (W.fact 219 rfl))
theorem Wld.n_Host__listeners (W : Wld K mg) : NoAttr K (He.ga K "Host") "_listeners" := He.noat_ok (W.fa (W.fact 220 rfl))
theorem Wld.n_Host__sockets (W : Wld K mg) : NoAttr K (He.ga K "Host") "_sockets" := He.noat_ok (W.fa (W.fact 221 rfl))
theorem Wld.n_Host__packets (W : Wld K mg) : NoAttr K (He.ga K "Host") "_packets" := He.noat_ok (W.fa (W.fact 222 rfl))
theorem Wld.c_Options (W : Wld K mg) : Cls K (He.ga K "Options") := He.cls_ok (W.fa (W.fact 223 rfl))
theorem Wld.n_Options_mss (W : Wld K mg) : NoAttr K (He.ga K "Options") "mss" := He.noat_ok (W.fa (W.fact 224 rfl))
theorem Wld.n_Options_room (W : Wld K mg) : NoAttr K (He.ga K "Options") "room" := He.noat_ok (W.fa (W.fact 225 rfl))
theorem Wld.n_Options_life (W : Wld K mg) : NoAttr K (He.ga K "Options") "life" := He.noat_ok (W.fa (W.fact 226 rfl))
theorem Wld.n_Options_pace (W : Wld K mg) : NoAttr K (He.ga K "Options") "pace" := He.noat_ok (W.fa (W.fact 227 rfl))
theorem Wld.n_Options_tries (W : Wld K mg) : NoAttr K (He.ga K "Options") "tries" := He.noat_ok (W.fa (W.fact 228 rfl))
theorem Wld.n_Options_min_rto (W : Wld K mg) : NoAttr K (He.ga K "Options") "min_rto" := He.noat_ok (W.fa (W.fact 229 rfl))
theorem Wld.n_Options_max_rto (W : Wld K mg) : NoAttr K (He.ga K "Options") "max_rto" := He.noat_ok (W.fa (W.fact 230 rfl))
theorem Wld.n_Options_ack_delay (W : Wld K mg) : NoAttr K (He.ga K "Options") "ack_delay" := He.noat_ok (W.fa (W.fact 231 rfl))
theorem Wld.n_Options_keep_alive (W : Wld K mg) : NoAttr K (He.ga K "Options") "keep_alive" := He.noat_ok (W.fa (W.fact 232 rfl))
theorem Wld.n_Options_nagle (W : Wld K mg) : NoAttr K (He.ga K "Options") "nagle" := He.noat_ok (W.fa (W.fact 233 rfl))
theorem Wld.n_Options_control (W : Wld K mg) : NoAttr K (He.ga K "Options") "control" := He.noat_ok (W.fa (W.fact 234 rfl))
theorem Wld.c_LineReader (W : Wld K mg) : Cls K (He.ga K "LineReader") := He.cls_ok (W.fa (W.fact 235 rfl))
theorem Wld.n_LineReader_lines (W : Wld K mg) : NoAttr K (He.ga K "LineReader") "lines" := He.noat_ok (W.fa (W.fact 236 rfl))
theorem Wld.n_LineReader_at (W : Wld K mg) : NoAttr K (He.ga K "LineReader") "at" := He.noat_ok (W.fa (W.fact 237 rfl))
theorem Wld.mk_Piece (W : Wld K mg) : Mk K (He.ga K "Piece") (He.ma K (He.ga K "Piece") "__init__") := He.mkr_ok (W.fa (W.fact 238 rfl))
theorem Wld.p_Piece_stop (W : Wld K mg) : PropOf K (He.ga K "Piece") "stop" (He.ma K (He.ga K "Piece") "stop") (prG K (He.ma K (He.ga K "Piece") "stop")) := prop_ok (W.ok (W.fact 239 rfl))
theorem Wld.mk_RoundTrip (W : Wld K mg) : Mk K (He.ga K "RoundTrip") (He.ma K (He.ga K "RoundTrip") "__init__") := He.mkr_ok (W.fa (W.fact 240 rfl))
theorem Wld.m_RoundTrip_bounded (W : Wld K mg) : Meth K (He.ga K "RoundTrip") "bounded" (He.ma K (He.ga K "RoundTrip") "bounded") := He.meth_ok (W.fa (W.fact 241 rfl))
theorem Wld.mk_Receiver (W : Wld K mg) : Mk K (He.ga K "Receiver") (He.ma K (He.ga K "Receiver") "__init__") := He.mkr_ok (W.fa (W.fact 242 rfl))
theorem Wld.p_Receiver_ready (W : Wld K mg) : PropOf K (He.ga K "Receiver") "ready" (He.ma K (He.ga K "Receiver") "ready") (prG K (He.ma K (He.ga K "Receiver") "ready")) := prop_ok (W.ok (W.fact 243 rfl))
theorem Wld.p_Receiver_end_taken (W : Wld K mg) : PropOf K (He.ga K "Receiver") "end_taken" (He.ma K (He.ga K "Receiver") "end_taken") (prG K (He.ma K (He.ga K "Receiver") "end_taken")) := prop_ok (W.ok (W.fact 244 rfl))
theorem Wld.p_Receiver_at_end (W : Wld K mg) : PropOf K (He.ga K "Receiver") "at_end" (He.ma K (He.ga K "Receiver") "at_end") (prG K (He.ma K (He.ga K "Receiver") "at_end")) := prop_ok (W.ok (W.fact 245 rfl))
theorem Wld.mk_Sender (W : Wld K mg) : Mk K (He.ga K "Sender") (He.ma K (He.ga K "Sender") "__init__") := He.mkr_ok (W.fa (W.fact 246 rfl))
theorem Wld.p_Sender_flight (W : Wld K mg) : PropOf K (He.ga K "Sender") "flight" (He.ma K (He.ga K "Sender") "flight") (prG K (He.ma K (He.ga K "Sender") "flight")) := prop_ok (W.ok (W.fact 247 rfl))
theorem Wld.p_Sender_unsent (W : Wld K mg) : PropOf K (He.ga K "Sender") "unsent" (He.ma K (He.ga K "Sender") "unsent") (prG K (He.ma K (He.ga K "Sender") "unsent")) := prop_ok (W.ok (W.fact 248 rfl))
theorem Wld.p_Sender_all_done (W : Wld K mg) : PropOf K (He.ga K "Sender") "all_done" (He.ma K (He.ga K "Sender") "all_done") (prG K (He.ma K (He.ga K "Sender") "all_done")) := prop_ok (W.ok (W.fact 249 rfl))
theorem Wld.p_Sender_free (W : Wld K mg) : PropOf K (He.ga K "Sender") "free" (He.ma K (He.ga K "Sender") "free") (prG K (He.ma K (He.ga K "Sender") "free")) := prop_ok (W.ok (W.fact 250 rfl))
theorem Wld.m_Sender_write (W : Wld K mg) : Meth K (He.ga K "Sender") "write" (He.ma K (He.ga K "Sender") "write") := He.meth_ok (W.fa (W.fact 251 rfl))
theorem Wld.m_Sender_finish (W : Wld K mg) : Meth K (He.ga K "Sender") "finish" (He.ma K (He.ga K "Sender") "finish") := He.meth_ok (W.fa (W.fact 252 rfl))
theorem Wld.m_Sender_piece (W : Wld K mg) : Meth K (He.ga K "Sender") "piece" (He.ma K (He.ga K "Sender") "piece") := He.meth_ok (W.fa (W.fact 253 rfl))
theorem Wld.m_Sender_mark_sent (W : Wld K mg) : Meth K (He.ga K "Sender") "mark_sent" (He.ma K (He.ga K "Sender") "mark_sent") := He.meth_ok (W.fa (W.fact 254 rfl))
theorem Wld.m_Sender_pipe (W : Wld K mg) : Meth K (He.ga K "Sender") "pipe" (He.ma K (He.ga K "Sender") "pipe") := He.meth_ok (W.fa (W.fact 255 rfl))
theorem Wld.m_Sender_next_piece (W : Wld K mg) : Meth K (He.ga K "Sender") "next_piece" (He.ma K (He.ga K "Sender") "next_piece") := He.meth_ok (W.fa (W.fact 256 rfl))
theorem Wld.m_Sender__not_sacked (W : Wld K mg) : Meth K (He.ga K "Sender") "_not_sacked" (He.ma K (He.ga K "Sender") "_not_sacked") := He.meth_ok (W.fa (W.fact 257 rfl))
theorem Wld.m_Sender__loss_end (W : Wld K mg) : Meth K (He.ga K "Sender") "_loss_end" (He.ma K (He.ga K "Sender") "_loss_end") := He.meth_ok (W.fa (W.fact 258 rfl))
theorem Wld.mk_Endpoint (W : Wld K mg) : Mk K (He.ga K "Endpoint") (He.ma K (He.ga K "Endpoint") "__init__") := He.mkr_ok (W.fa (W.fact 259 rfl))
theorem Wld.p_Endpoint_has_ended (W : Wld K mg) : PropOf K (He.ga K "Endpoint") "has_ended" (He.ma K (He.ga K "Endpoint") "has_ended") (prG K (He.ma K (He.ga K "Endpoint") "has_ended")) := prop_ok (W.ok (W.fact 260 rfl))
theorem Wld.p_Endpoint_needs_answer (W : Wld K mg) : PropOf K (He.ga K "Endpoint") "needs_answer" (He.ma K (He.ga K "Endpoint") "needs_answer") (prG K (He.ma K (He.ga K "Endpoint") "needs_answer")) := prop_ok (W.ok (W.fact 261 rfl))
theorem Wld.p_Endpoint_flight (W : Wld K mg) : PropOf K (He.ga K "Endpoint") "flight" (He.ma K (He.ga K "Endpoint") "flight") (prG K (He.ma K (He.ga K "Endpoint") "flight")) := prop_ok (W.ok (W.fact 262 rfl))
theorem Wld.p_Endpoint_timeout (W : Wld K mg) : PropOf K (He.ga K "Endpoint") "timeout" (He.ma K (He.ga K "Endpoint") "timeout") (prG K (He.ma K (He.ga K "Endpoint") "timeout")) := prop_ok (W.ok (W.fact 263 rfl))
theorem Wld.m_Endpoint_write (W : Wld K mg) : Meth K (He.ga K "Endpoint") "write" (He.ma K (He.ga K "Endpoint") "write") := He.meth_ok (W.fa (W.fact 264 rfl))
theorem Wld.m_Endpoint_finish (W : Wld K mg) : Meth K (He.ga K "Endpoint") "finish" (He.ma K (He.ga K "Endpoint") "finish") := He.meth_ok (W.fa (W.fact 265 rfl))
theorem Wld.m_Endpoint_abort (W : Wld K mg) : Meth K (He.ga K "Endpoint") "abort" (He.ma K (He.ga K "Endpoint") "abort") := He.meth_ok (W.fa (W.fact 266 rfl))
theorem Wld.m_Endpoint_output (W : Wld K mg) : Meth K (He.ga K "Endpoint") "output" (He.ma K (He.ga K "Endpoint") "output") := He.meth_ok (W.fa (W.fact 267 rfl))
theorem Wld.m_Endpoint_close (W : Wld K mg) : Meth K (He.ga K "Endpoint") "close" (He.ma K (He.ga K "Endpoint") "close") := He.meth_ok (W.fa (W.fact 268 rfl))
theorem Wld.m_Endpoint_settle (W : Wld K mg) : Meth K (He.ga K "Endpoint") "settle" (He.ma K (He.ga K "Endpoint") "settle") := He.meth_ok (W.fa (W.fact 269 rfl))
theorem Wld.m_Endpoint_wait (W : Wld K mg) : Meth K (He.ga K "Endpoint") "wait" (He.ma K (He.ga K "Endpoint") "wait") := He.meth_ok (W.fa (W.fact 270 rfl))
theorem Wld.m_Endpoint_wind (W : Wld K mg) : Meth K (He.ga K "Endpoint") "wind" (He.ma K (He.ga K "Endpoint") "wind") := He.meth_ok (W.fa (W.fact 271 rfl))
theorem Wld.mk_CodeReader (W : Wld K mg) : Mk K (He.ga K "CodeReader") (He.ma K (He.ga K "CodeReader") "__init__") := He.mkr_ok (W.fa (W.fact 272 rfl))
theorem Wld.m_CodeReader_number (W : Wld K mg) : Meth K (He.ga K "CodeReader") "number" (He.ma K (He.ga K "CodeReader") "number") := He.meth_ok (W.fa (W.fact 273 rfl))
theorem Wld.m_CodeReader_flag (W : Wld K mg) : Meth K (He.ga K "CodeReader") "flag" (He.ma K (He.ga K "CodeReader") "flag") := He.meth_ok (W.fa (W.fact 274 rfl))
theorem Wld.m_CodeReader_maybe (W : Wld K mg) : Meth K (He.ga K "CodeReader") "maybe" (He.ma K (He.ga K "CodeReader") "maybe") := He.meth_ok (W.fa (W.fact 275 rfl))
theorem Wld.m_CodeReader_choice (W : Wld K mg) : Meth K (He.ga K "CodeReader") "choice" (He.ma K (He.ga K "CodeReader") "choice") := He.meth_ok (W.fa (W.fact 276 rfl))
theorem Wld.m_CodeReader_many (W : Wld K mg) : Meth K (He.ga K "CodeReader") "many" (He.ma K (He.ga K "CodeReader") "many") := He.meth_ok (W.fa (W.fact 277 rfl))
theorem Wld.m_CodeReader_pairs (W : Wld K mg) : Meth K (He.ga K "CodeReader") "pairs" (He.ma K (He.ga K "CodeReader") "pairs") := He.meth_ok (W.fa (W.fact 278 rfl))
theorem Wld.m_CodeReader_finish (W : Wld K mg) : Meth K (He.ga K "CodeReader") "finish" (He.ma K (He.ga K "CodeReader") "finish") := He.meth_ok (W.fa (W.fact 279 rfl))
theorem Wld.mk_Packet (W : Wld K mg) : Mk K (He.ga K "Packet") (He.ma K (He.ga K "Packet") "__init__") := He.mkr_ok (W.fa (W.fact 280 rfl))
theorem Wld.m_Packet___eq__ (W : Wld K mg) : Meth K (He.ga K "Packet") "__eq__" (He.ma K (He.ga K "Packet") "__eq__") := He.meth_ok (W.fa (W.fact 281 rfl))
theorem Wld.mk_Segment (W : Wld K mg) : Mk K (He.ga K "Segment") (He.ma K (He.ga K "Segment") "__init__") := He.mkr_ok (W.fa (W.fact 282 rfl))
theorem Wld.mk_Socket (W : Wld K mg) : Mk K (He.ga K "Socket") (He.ma K (He.ga K "Socket") "__init__") := He.mkr_ok (W.fa (W.fact 283 rfl))
theorem Wld.p_Socket_first (W : Wld K mg) : PropOf K (He.ga K "Socket") "first" (He.ma K (He.ga K "Socket") "first") (prG K (He.ma K (He.ga K "Socket") "first")) := prop_ok (W.ok (W.fact 284 rfl))
theorem Wld.m_Socket_to_segment (W : Wld K mg) : Meth K (He.ga K "Socket") "to_segment" (He.ma K (He.ga K "Socket") "to_segment") := He.meth_ok (W.fa (W.fact 285 rfl))
theorem Wld.mk_Host (W : Wld K mg) : Mk K (He.ga K "Host") (He.ma K (He.ga K "Host") "__init__") := He.mkr_ok (W.fa (W.fact 286 rfl))
theorem Wld.p_Host_sockets (W : Wld K mg) : PropOf K (He.ga K "Host") "sockets" (He.ma K (He.ga K "Host") "sockets") (prG K (He.ma K (He.ga K "Host") "sockets")) := prop_ok (W.ok (W.fact 287 rfl))
theorem Wld.m_Host_find (W : Wld K mg) : Meth K (He.ga K "Host") "find" (He.ma K (He.ga K "Host") "find") := He.meth_ok (W.fa (W.fact 288 rfl))
theorem Wld.m_Host_connect (W : Wld K mg) : Meth K (He.ga K "Host") "connect" (He.ma K (He.ga K "Host") "connect") := He.meth_ok (W.fa (W.fact 289 rfl))
theorem Wld.m_Host_listen (W : Wld K mg) : Meth K (He.ga K "Host") "listen" (He.ma K (He.ga K "Host") "listen") := He.meth_ok (W.fa (W.fact 290 rfl))
theorem Wld.m_Host_write (W : Wld K mg) : Meth K (He.ga K "Host") "write" (He.ma K (He.ga K "Host") "write") := He.meth_ok (W.fa (W.fact 291 rfl))
theorem Wld.m_Host_finish (W : Wld K mg) : Meth K (He.ga K "Host") "finish" (He.ma K (He.ga K "Host") "finish") := He.meth_ok (W.fa (W.fact 292 rfl))
theorem Wld.m_Host_abort (W : Wld K mg) : Meth K (He.ga K "Host") "abort" (He.ma K (He.ga K "Host") "abort") := He.meth_ok (W.fa (W.fact 293 rfl))
theorem Wld.m_Host_tick (W : Wld K mg) : Meth K (He.ga K "Host") "tick" (He.ma K (He.ga K "Host") "tick") := He.meth_ok (W.fa (W.fact 294 rfl))
theorem Wld.m_Host_take (W : Wld K mg) : Meth K (He.ga K "Host") "take" (He.ma K (He.ga K "Host") "take") := He.meth_ok (W.fa (W.fact 295 rfl))
theorem Wld.m_Host_restart (W : Wld K mg) : Meth K (He.ga K "Host") "restart" (He.ma K (He.ga K "Host") "restart") := He.meth_ok (W.fa (W.fact 296 rfl))
theorem Wld.m_Host_status (W : Wld K mg) : Meth K (He.ga K "Host") "status" (He.ma K (He.ga K "Host") "status") := He.meth_ok (W.fa (W.fact 297 rfl))
theorem Wld.m_Host__known (W : Wld K mg) : Meth K (He.ga K "Host") "_known" (He.ma K (He.ga K "Host") "_known") := He.meth_ok (W.fa (W.fact 298 rfl))
theorem Wld.m_Host__is_full (W : Wld K mg) : Meth K (He.ga K "Host") "_is_full" (He.ma K (He.ga K "Host") "_is_full") := He.meth_ok (W.fa (W.fact 299 rfl))
theorem Wld.m_Host__add (W : Wld K mg) : Meth K (He.ga K "Host") "_add" (He.ma K (He.ga K "Host") "_add") := He.meth_ok (W.fa (W.fact 300 rfl))
theorem Wld.m_Host__send (W : Wld K mg) : Meth K (He.ga K "Host") "_send" (He.ma K (He.ga K "Host") "_send") := He.meth_ok (W.fa (W.fact 301 rfl))
theorem Wld.m_Host__post (W : Wld K mg) : Meth K (He.ga K "Host") "_post" (He.ma K (He.ga K "Host") "_post") := He.meth_ok (W.fa (W.fact 302 rfl))
theorem Wld.mk_Options (W : Wld K mg) : Mk K (He.ga K "Options") (He.ma K (He.ga K "Options") "__init__") := He.mkr_ok (W.fa (W.fact 303 rfl))
theorem Wld.p_Options_shift (W : Wld K mg) : PropOf K (He.ga K "Options") "shift" (He.ma K (He.ga K "Options") "shift") (prG K (He.ma K (He.ga K "Options") "shift")) := prop_ok (W.ok (W.fact 304 rfl))
theorem Wld.m_Options___eq__ (W : Wld K mg) : Meth K (He.ga K "Options") "__eq__" (He.ma K (He.ga K "Options") "__eq__") := He.meth_ok (W.fa (W.fact 305 rfl))
theorem Wld.m_Options__values (W : Wld K mg) : Meth K (He.ga K "Options") "_values" (He.ma K (He.ga K "Options") "_values") := He.meth_ok (W.fa (W.fact 306 rfl))
theorem Wld.mk_LineReader (W : Wld K mg) : Mk K (He.ga K "LineReader") (He.ma K (He.ga K "LineReader") "__init__") := He.mkr_ok (W.fa (W.fact 307 rfl))
theorem Wld.m_LineReader_next_code (W : Wld K mg) : Meth K (He.ga K "LineReader") "next_code" (He.ma K (He.ga K "LineReader") "next_code") := He.meth_ok (W.fa (W.fact 308 rfl))
theorem Wld.mk_Cubic (W : Wld K mg) : Mk K (He.ga K "Cubic") (He.ma K (He.ga K "Cubic") "__init__") := He.mkr_ok (W.fa (W.fact 309 rfl))
theorem Wld.mk_Reno (W : Wld K mg) : Mk K (He.ga K "Reno") (He.ma K (He.ga K "Reno") "__init__") := He.mkr_ok (W.fa (W.fact 310 rfl))
theorem Wld.t_CONTROLS (W : Wld K mg) : ∀ H : Hp, SqT K H (He.ga K "CONTROLS") ((["reno", "cubic"] : List Str).map V.str) := fun H => tup_ok (W.ok (W.fact 311 rfl)) H
theorem Wld.t_PHASES (W : Wld K mg) : ∀ H : Hp, SqT K H (He.ga K "PHASES") ((["syn sent", "syn received", "established", "fin wait 1", "fin wait 2", "close wait", "closing", "last ack", "time wait", "ended"] : List Str).map V.str) := fun H => tup_ok (W.ok (W.fact 312 rfl)) H
theorem Wld.t_CAUSES (W : Wld K mg) : ∀ H : Hp, SqT K H (He.ga K "CAUSES") ((["done", "refused", "reset", "gave up", "silent", "aborted"] : List Str).map V.str) := fun H => tup_ok (W.ok (W.fact 313 rfl)) H
theorem Wld.r_Control (W : Wld K mg) : CRead K (He.ga K "Control") (.type "type") := crd_ok (W.ok (W.fact 314 rfl))
theorem Wld.r_Endpoint (W : Wld K mg) : CRead K (He.ga K "Endpoint") (.type "type") := crd_ok (W.ok (W.fact 315 rfl))
theorem Wld.r_Host (W : Wld K mg) : CRead K (He.ga K "Host") (.type "type") := crd_ok (W.ok (W.fact 316 rfl))
theorem Wld.k_Control_GREATEST (W : Wld K mg) : ∃ u, CVal K (He.ga K "Control") (.type "type") "GREATEST" (.int 1073741824) u := cvl_ok (W.ok (W.fact 317 rfl))
theorem Wld.k_Endpoint_MOST_AT_ONCE (W : Wld K mg) : ∃ u, CVal K (He.ga K "Endpoint") (.type "type") "MOST_AT_ONCE" (.int 64) u := cvl_ok (W.ok (W.fact 318 rfl))
theorem Wld.k_Host_MOST_SOCKETS (W : Wld K mg) : ∃ u, CVal K (He.ga K "Host") (.type "type") "MOST_SOCKETS" (.int 32) u := cvl_ok (W.ok (W.fact 319 rfl))
theorem Wld.k_Host_GREATEST_COUNT (W : Wld K mg) : ∃ u, CVal K (He.ga K "Host") (.type "type") "GREATEST_COUNT" (.int 4294967295) u := cvl_ok (W.ok (W.fact 320 rfl))
theorem Wld.is_Cubic_Reno (W : Wld K mg) : PySem.W.kitOne K (.ref (He.ga K "Cubic")) (.ref (He.ga K "Reno")) = some false := isi_ok (W.ok (W.fact 321 rfl))
theorem Wld.is_Reno_Reno (W : Wld K mg) : PySem.W.kitOne K (.ref (He.ga K "Reno")) (.ref (He.ga K "Reno")) = some true := isi_ok (W.ok (W.fact 322 rfl))
theorem Wld.is_Packet_Packet (W : Wld K mg) : PySem.W.kitOne K (.ref (He.ga K "Packet")) (.ref (He.ga K "Packet")) = some true := isi_ok (W.ok (W.fact 323 rfl))
theorem Wld.is_Options_Options (W : Wld K mg) : PySem.W.kitOne K (.ref (He.ga K "Options")) (.ref (He.ga K "Options")) = some true := isi_ok (W.ok (W.fact 324 rfl))
theorem Wld.q_Packet (W : Wld K mg) : Meth K (He.ga K "Packet") "__eq__" (He.ma K (He.ga K "Packet") "__eq__") := He.meth_ok (W.fa (W.fact 325 rfl))
theorem Wld.q_Options (W : Wld K mg) : Meth K (He.ga K "Options") "__eq__" (He.ma K (He.ga K "Options") "__eq__") := He.meth_ok (W.fa (W.fact 326 rfl))
theorem Wld.ty_Reno (W : Wld K mg) : PySem.W.findIn K (.ref (He.ga K "Reno")) "__class__" = some (some (.builtin "object.__class__")) ∧ PySem.W.specialIn K (.builtin "object.__class__") "__get__" = some (some (.builtin "getset_descriptor.__get__")) ∧ PySem.W.takesIn K (.builtin "object.__class__") = some true ∧ PySem.W.mroIn K (He.ga K "Reno") (.type "object") = some true := tyo_ok (W.ok (W.fact 327 rfl))
theorem Wld.ty_Cubic (W : Wld K mg) : PySem.W.findIn K (.ref (He.ga K "Cubic")) "__class__" = some (some (.builtin "object.__class__")) ∧ PySem.W.specialIn K (.builtin "object.__class__") "__get__" = some (some (.builtin "getset_descriptor.__get__")) ∧ PySem.W.takesIn K (.builtin "object.__class__") = some true ∧ PySem.W.mroIn K (He.ga K "Cubic") (.type "object") = some true := tyo_ok (W.ok (W.fact 328 rfl))
theorem Wld.ty_Packet (W : Wld K mg) : PySem.W.findIn K (.ref (He.ga K "Packet")) "__class__" = some (some (.builtin "object.__class__")) ∧ PySem.W.specialIn K (.builtin "object.__class__") "__get__" = some (some (.builtin "getset_descriptor.__get__")) ∧ PySem.W.takesIn K (.builtin "object.__class__") = some true ∧ PySem.W.mroIn K (He.ga K "Packet") (.type "object") = some true := tyo_ok (W.ok (W.fact 329 rfl))
theorem Wld.ty_Options (W : Wld K mg) : PySem.W.findIn K (.ref (He.ga K "Options")) "__class__" = some (some (.builtin "object.__class__")) ∧ PySem.W.specialIn K (.builtin "object.__class__") "__get__" = some (some (.builtin "getset_descriptor.__get__")) ∧ PySem.W.takesIn K (.builtin "object.__class__") = some true ∧ PySem.W.mroIn K (He.ga K "Options") (.type "object") = some true := tyo_ok (W.ok (W.fact 330 rfl))
theorem Wld.tt_CAUSES (W : Wld K mg) : ∃ o, K.lookup (He.ga K "CAUSES") = some o ∧ o.cls = .type "tuple" ∧ o.dict = none := tty_ok (W.ok (W.fact 331 rfl))
theorem Wld.tt_CONTROLS (W : Wld K mg) : ∃ o, K.lookup (He.ga K "CONTROLS") = some o ∧ o.cls = .type "tuple" ∧ o.dict = none := tty_ok (W.ok (W.fact 332 rfl))
theorem Wld.tt_PHASES (W : Wld K mg) : ∃ o, K.lookup (He.ga K "PHASES") = some o ∧ o.cls = .type "tuple" ∧ o.dict = none := tty_ok (W.ok (W.fact 333 rfl))
theorem Wld.ne_Options (W : Wld K mg) : PySem.W.findIn K (.ref (He.ga K "Options")) "__ne__" = some (some (.builtin "object.__ne__")) := neo_ok (W.ok (W.fact 334 rfl))
theorem Wld.su_Cubic (W : Wld K mg) : (Fx.sup "Cubic" "Control").ok K = true := W.ok (W.fact 335 rfl)
theorem Wld.su_Reno (W : Wld K mg) : (Fx.sup "Reno" "Control").ok K = true := W.ok (W.fact 336 rfl)
theorem Wld.g_InvalidOptions (W : Wld K mg) : mg "InvalidOptions" = some (.ref (He.ga K "InvalidOptions")) := W.glo (W.fact 337 rfl)
theorem Wld.e_Piece_data (W : Wld K mg) : ∀ H : Hp, SqT K H (dvAd K "Piece" "data") [] := fun H => ety_ok (W.ok (W.fact 338 rfl)) H
theorem Wld.e_Piece_ranges (W : Wld K mg) : ∀ H : Hp, SqT K H (dvAd K "Piece" "ranges") [] := fun H => ety_ok (W.ok (W.fact 339 rfl)) H
theorem Wld.e_Segment_data (W : Wld K mg) : ∀ H : Hp, SqT K H (dvAd K "Segment" "data") [] := fun H => ety_ok (W.ok (W.fact 340 rfl)) H
theorem Wld.e_Segment_ranges (W : Wld K mg) : ∀ H : Hp, SqT K H (dvAd K "Segment" "ranges") [] := fun H => ety_ok (W.ok (W.fact 341 rfl)) H

abbrev pl_Piece___init__ : Pl := .m "Piece" "__init__"
theorem Wld.d_Piece___init__ (W : Wld K mg) : ∃ fd, FunD K "__init__" "Piece.__init__" (defArgs s_Piece___init__) (defBody s_Piece___init__) (defScope s_Piece___init__) [] [("data", V.ref (dvAd K "Piece" "data")), ("syn", V.bl false), ("fin", V.bl false), ("reset", V.bl false), ("ack", V.non), ("window", V.int 0), ("ranges", V.ref (dvAd K "Piece" "ranges")), ("marked", V.bl false), ("cut", V.bl false), ("stamp", V.non)] (pl_Piece___init__.ad K) fd := W.def_ 0 rfl rfl
abbrev pl_Piece_stop : Pl := .p "Piece" "stop"
theorem Wld.d_Piece_stop (W : Wld K mg) : ∃ fd, FunD K "stop" "Piece.stop" (defArgs s_Piece_stop) (defBody s_Piece_stop) (defScope s_Piece_stop) [] [] (pl_Piece_stop.ad K) fd := W.def_ 1 rfl rfl
abbrev pl_is_due : Pl := .g "is_due"
theorem Wld.d_is_due (W : Wld K mg) : ∃ fd, FunD K "is_due" "is_due" (defArgs s_is_due) (defBody s_is_due) (defScope s_is_due) [] [] (pl_is_due.ad K) fd := W.def_ 2 rfl rfl
abbrev pl_next_output : Pl := .g "next_output"
theorem Wld.d_next_output (W : Wld K mg) : ∃ fd, FunD K "next_output" "next_output" (defArgs s_next_output) (defBody s_next_output) (defScope s_next_output) [] [] (pl_next_output.ad K) fd := W.def_ 3 rfl rfl
abbrev pl_next_reset : Pl := .g "next_reset"
theorem Wld.d_next_reset (W : Wld K mg) : ∃ fd, FunD K "next_reset" "next_reset" (defArgs s_next_reset) (defBody s_next_reset) (defScope s_next_reset) [] [] (pl_next_reset.ad K) fd := W.def_ 4 rfl rfl
abbrev pl_allowance : Pl := .g "allowance"
theorem Wld.d_allowance (W : Wld K mg) : ∃ fd, FunD K "allowance" "allowance" (defArgs s_allowance) (defBody s_allowance) (defScope s_allowance) [] [] (pl_allowance.ad K) fd := W.def_ 5 rfl rfl
abbrev pl_spend : Pl := .g "spend"
theorem Wld.d_spend (W : Wld K mg) : ∃ fd, FunD K "spend" "spend" (defArgs s_spend) (defBody s_spend) (defScope s_spend) [] [] (pl_spend.ad K) fd := W.def_ 6 rfl rfl
abbrev pl_send : Pl := .g "send"
theorem Wld.d_send (W : Wld K mg) : ∃ fd, FunD K "send" "send" (defArgs s_send) (defBody s_send) (defScope s_send) [] [] (pl_send.ad K) fd := W.def_ 7 rfl rfl
abbrev pl_dress : Pl := .g "dress"
theorem Wld.d_dress (W : Wld K mg) : ∃ fd, FunD K "dress" "dress" (defArgs s_dress) (defBody s_dress) (defScope s_dress) [] [] (pl_dress.ad K) fd := W.def_ 8 rfl rfl
abbrev pl_next_phase : Pl := .g "next_phase"
theorem Wld.d_next_phase (W : Wld K mg) : ∃ fd, FunD K "next_phase" "next_phase" (defArgs s_next_phase) (defBody s_next_phase) (defScope s_next_phase) [] [] (pl_next_phase.ad K) fd := W.def_ 9 rfl rfl
abbrev pl_Control___init__ : Pl := .m "Control" "__init__"
theorem Wld.d_Control___init__ (W : Wld K mg) : ∃ fd, FunD K "__init__" "Control.__init__" (defArgs s_Control___init__) (defBody s_Control___init__) (defScope s_Control___init__) [] [] (pl_Control___init__.ad K) fd := W.def_ 10 rfl rfl
abbrev pl_RoundTrip___init__ : Pl := .m "RoundTrip" "__init__"
theorem Wld.d_RoundTrip___init__ (W : Wld K mg) : ∃ fd, FunD K "__init__" "RoundTrip.__init__" (defArgs s_RoundTrip___init__) (defBody s_RoundTrip___init__) (defScope s_RoundTrip___init__) [] [] (pl_RoundTrip___init__.ad K) fd := W.def_ 11 rfl rfl
abbrev pl_RoundTrip_bounded : Pl := .m "RoundTrip" "bounded"
theorem Wld.d_RoundTrip_bounded (W : Wld K mg) : ∃ fd, FunD K "bounded" "RoundTrip.bounded" (defArgs s_RoundTrip_bounded) (defBody s_RoundTrip_bounded) (defScope s_RoundTrip_bounded) [] [] (pl_RoundTrip_bounded.ad K) fd := W.def_ 12 rfl rfl
abbrev pl_Receiver___init__ : Pl := .m "Receiver" "__init__"
theorem Wld.d_Receiver___init__ (W : Wld K mg) : ∃ fd, FunD K "__init__" "Receiver.__init__" (defArgs s_Receiver___init__) (defBody s_Receiver___init__) (defScope s_Receiver___init__) [] [] (pl_Receiver___init__.ad K) fd := W.def_ 13 rfl rfl
abbrev pl_Receiver_ready : Pl := .p "Receiver" "ready"
theorem Wld.d_Receiver_ready (W : Wld K mg) : ∃ fd, FunD K "ready" "Receiver.ready" (defArgs s_Receiver_ready) (defBody s_Receiver_ready) (defScope s_Receiver_ready) [] [] (pl_Receiver_ready.ad K) fd := W.def_ 14 rfl rfl
abbrev pl_Receiver_end_taken : Pl := .p "Receiver" "end_taken"
theorem Wld.d_Receiver_end_taken (W : Wld K mg) : ∃ fd, FunD K "end_taken" "Receiver.end_taken" (defArgs s_Receiver_end_taken) (defBody s_Receiver_end_taken) (defScope s_Receiver_end_taken) [] [] (pl_Receiver_end_taken.ad K) fd := W.def_ 15 rfl rfl
abbrev pl_Receiver_at_end : Pl := .p "Receiver" "at_end"
theorem Wld.d_Receiver_at_end (W : Wld K mg) : ∃ fd, FunD K "at_end" "Receiver.at_end" (defArgs s_Receiver_at_end) (defBody s_Receiver_at_end) (defScope s_Receiver_at_end) [] [] (pl_Receiver_at_end.ad K) fd := W.def_ 16 rfl rfl
abbrev pl_count_inside : Pl := .g "count_inside"
theorem Wld.d_count_inside (W : Wld K mg) : ∃ fd, FunD K "count_inside" "count_inside" (defArgs s_count_inside) (defBody s_count_inside) (defScope s_count_inside) [] [] (pl_count_inside.ad K) fd := W.def_ 17 rfl rfl
abbrev pl_first_free : Pl := .g "first_free"
theorem Wld.d_first_free (W : Wld K mg) : ∃ fd, FunD K "first_free" "first_free" (defArgs s_first_free) (defBody s_first_free) (defScope s_first_free) [] [] (pl_first_free.ad K) fd := W.def_ 18 rfl rfl
abbrev pl_Sender___init__ : Pl := .m "Sender" "__init__"
theorem Wld.d_Sender___init__ (W : Wld K mg) : ∃ fd, FunD K "__init__" "Sender.__init__" (defArgs s_Sender___init__) (defBody s_Sender___init__) (defScope s_Sender___init__) [] [] (pl_Sender___init__.ad K) fd := W.def_ 19 rfl rfl
abbrev pl_Sender_flight : Pl := .p "Sender" "flight"
theorem Wld.d_Sender_flight (W : Wld K mg) : ∃ fd, FunD K "flight" "Sender.flight" (defArgs s_Sender_flight) (defBody s_Sender_flight) (defScope s_Sender_flight) [] [] (pl_Sender_flight.ad K) fd := W.def_ 20 rfl rfl
abbrev pl_Sender_unsent : Pl := .p "Sender" "unsent"
theorem Wld.d_Sender_unsent (W : Wld K mg) : ∃ fd, FunD K "unsent" "Sender.unsent" (defArgs s_Sender_unsent) (defBody s_Sender_unsent) (defScope s_Sender_unsent) [] [] (pl_Sender_unsent.ad K) fd := W.def_ 21 rfl rfl
abbrev pl_Sender_all_done : Pl := .p "Sender" "all_done"
theorem Wld.d_Sender_all_done (W : Wld K mg) : ∃ fd, FunD K "all_done" "Sender.all_done" (defArgs s_Sender_all_done) (defBody s_Sender_all_done) (defScope s_Sender_all_done) [] [] (pl_Sender_all_done.ad K) fd := W.def_ 22 rfl rfl
abbrev pl_Sender_free : Pl := .p "Sender" "free"
theorem Wld.d_Sender_free (W : Wld K mg) : ∃ fd, FunD K "free" "Sender.free" (defArgs s_Sender_free) (defBody s_Sender_free) (defScope s_Sender_free) [] [] (pl_Sender_free.ad K) fd := W.def_ 23 rfl rfl
abbrev pl_Sender_write : Pl := .m "Sender" "write"
theorem Wld.d_Sender_write (W : Wld K mg) : ∃ fd, FunD K "write" "Sender.write" (defArgs s_Sender_write) (defBody s_Sender_write) (defScope s_Sender_write) [] [] (pl_Sender_write.ad K) fd := W.def_ 24 rfl rfl
abbrev pl_Sender_finish : Pl := .m "Sender" "finish"
theorem Wld.d_Sender_finish (W : Wld K mg) : ∃ fd, FunD K "finish" "Sender.finish" (defArgs s_Sender_finish) (defBody s_Sender_finish) (defScope s_Sender_finish) [] [] (pl_Sender_finish.ad K) fd := W.def_ 25 rfl rfl
abbrev pl_Sender_piece : Pl := .m "Sender" "piece"
theorem Wld.d_Sender_piece (W : Wld K mg) : ∃ fd, FunD K "piece" "Sender.piece" (defArgs s_Sender_piece) (defBody s_Sender_piece) (defScope s_Sender_piece) [] [] (pl_Sender_piece.ad K) fd := W.def_ 26 rfl rfl
abbrev pl_Sender_mark_sent : Pl := .m "Sender" "mark_sent"
theorem Wld.d_Sender_mark_sent (W : Wld K mg) : ∃ fd, FunD K "mark_sent" "Sender.mark_sent" (defArgs s_Sender_mark_sent) (defBody s_Sender_mark_sent) (defScope s_Sender_mark_sent) [] [] (pl_Sender_mark_sent.ad K) fd := W.def_ 27 rfl rfl
abbrev pl_Sender_pipe : Pl := .m "Sender" "pipe"
theorem Wld.d_Sender_pipe (W : Wld K mg) : ∃ fd, FunD K "pipe" "Sender.pipe" (defArgs s_Sender_pipe) (defBody s_Sender_pipe) (defScope s_Sender_pipe) [] [] (pl_Sender_pipe.ad K) fd := W.def_ 28 rfl rfl
abbrev pl_Sender_next_piece : Pl := .m "Sender" "next_piece"
theorem Wld.d_Sender_next_piece (W : Wld K mg) : ∃ fd, FunD K "next_piece" "Sender.next_piece" (defArgs s_Sender_next_piece) (defBody s_Sender_next_piece) (defScope s_Sender_next_piece) [] [("nagle", V.bl false)] (pl_Sender_next_piece.ad K) fd := W.def_ 29 rfl rfl
abbrev pl_Sender__not_sacked : Pl := .m "Sender" "_not_sacked"
theorem Wld.d_Sender__not_sacked (W : Wld K mg) : ∃ fd, FunD K "_not_sacked" "Sender._not_sacked" (defArgs s_Sender__not_sacked) (defBody s_Sender__not_sacked) (defScope s_Sender__not_sacked) [] [] (pl_Sender__not_sacked.ad K) fd := W.def_ 30 rfl rfl
abbrev pl_Sender__loss_end : Pl := .m "Sender" "_loss_end"
theorem Wld.d_Sender__loss_end (W : Wld K mg) : ∃ fd, FunD K "_loss_end" "Sender._loss_end" (defArgs s_Sender__loss_end) (defBody s_Sender__loss_end) (defScope s_Sender__loss_end) [] [] (pl_Sender__loss_end.ad K) fd := W.def_ 31 rfl rfl
abbrev pl_make_control : Pl := .g "make_control"
theorem Wld.d_make_control (W : Wld K mg) : ∃ fd, FunD K "make_control" "make_control" (defArgs s_make_control) (defBody s_make_control) (defScope s_make_control) [] [] (pl_make_control.ad K) fd := W.def_ 32 rfl rfl
abbrev pl_Endpoint___init__ : Pl := .m "Endpoint" "__init__"
theorem Wld.d_Endpoint___init__ (W : Wld K mg) : ∃ fd, FunD K "__init__" "Endpoint.__init__" (defArgs s_Endpoint___init__) (defBody s_Endpoint___init__) (defScope s_Endpoint___init__) [] [] (pl_Endpoint___init__.ad K) fd := W.def_ 33 rfl rfl
abbrev pl_Endpoint_has_ended : Pl := .p "Endpoint" "has_ended"
theorem Wld.d_Endpoint_has_ended (W : Wld K mg) : ∃ fd, FunD K "has_ended" "Endpoint.has_ended" (defArgs s_Endpoint_has_ended) (defBody s_Endpoint_has_ended) (defScope s_Endpoint_has_ended) [] [] (pl_Endpoint_has_ended.ad K) fd := W.def_ 34 rfl rfl
abbrev pl_Endpoint_needs_answer : Pl := .p "Endpoint" "needs_answer"
theorem Wld.d_Endpoint_needs_answer (W : Wld K mg) : ∃ fd, FunD K "needs_answer" "Endpoint.needs_answer" (defArgs s_Endpoint_needs_answer) (defBody s_Endpoint_needs_answer) (defScope s_Endpoint_needs_answer) [] [] (pl_Endpoint_needs_answer.ad K) fd := W.def_ 35 rfl rfl
abbrev pl_Endpoint_flight : Pl := .p "Endpoint" "flight"
theorem Wld.d_Endpoint_flight (W : Wld K mg) : ∃ fd, FunD K "flight" "Endpoint.flight" (defArgs s_Endpoint_flight) (defBody s_Endpoint_flight) (defScope s_Endpoint_flight) [] [] (pl_Endpoint_flight.ad K) fd := W.def_ 36 rfl rfl
abbrev pl_Endpoint_timeout : Pl := .p "Endpoint" "timeout"
theorem Wld.d_Endpoint_timeout (W : Wld K mg) : ∃ fd, FunD K "timeout" "Endpoint.timeout" (defArgs s_Endpoint_timeout) (defBody s_Endpoint_timeout) (defScope s_Endpoint_timeout) [] [] (pl_Endpoint_timeout.ad K) fd := W.def_ 37 rfl rfl
abbrev pl_Endpoint_write : Pl := .m "Endpoint" "write"
theorem Wld.d_Endpoint_write (W : Wld K mg) : ∃ fd, FunD K "write" "Endpoint.write" (defArgs s_Endpoint_write) (defBody s_Endpoint_write) (defScope s_Endpoint_write) [] [] (pl_Endpoint_write.ad K) fd := W.def_ 38 rfl rfl
abbrev pl_Endpoint_finish : Pl := .m "Endpoint" "finish"
theorem Wld.d_Endpoint_finish (W : Wld K mg) : ∃ fd, FunD K "finish" "Endpoint.finish" (defArgs s_Endpoint_finish) (defBody s_Endpoint_finish) (defScope s_Endpoint_finish) [] [] (pl_Endpoint_finish.ad K) fd := W.def_ 39 rfl rfl
abbrev pl_Endpoint_abort : Pl := .m "Endpoint" "abort"
theorem Wld.d_Endpoint_abort (W : Wld K mg) : ∃ fd, FunD K "abort" "Endpoint.abort" (defArgs s_Endpoint_abort) (defBody s_Endpoint_abort) (defScope s_Endpoint_abort) [] [] (pl_Endpoint_abort.ad K) fd := W.def_ 40 rfl rfl
abbrev pl_Endpoint_output : Pl := .m "Endpoint" "output"
theorem Wld.d_Endpoint_output (W : Wld K mg) : ∃ fd, FunD K "output" "Endpoint.output" (defArgs s_Endpoint_output) (defBody s_Endpoint_output) (defScope s_Endpoint_output) [] [] (pl_Endpoint_output.ad K) fd := W.def_ 41 rfl rfl
abbrev pl_Endpoint_close : Pl := .m "Endpoint" "close"
theorem Wld.d_Endpoint_close (W : Wld K mg) : ∃ fd, FunD K "close" "Endpoint.close" (defArgs s_Endpoint_close) (defBody s_Endpoint_close) (defScope s_Endpoint_close) [] [] (pl_Endpoint_close.ad K) fd := W.def_ 42 rfl rfl
abbrev pl_Endpoint_settle : Pl := .m "Endpoint" "settle"
theorem Wld.d_Endpoint_settle (W : Wld K mg) : ∃ fd, FunD K "settle" "Endpoint.settle" (defArgs s_Endpoint_settle) (defBody s_Endpoint_settle) (defScope s_Endpoint_settle) [] [] (pl_Endpoint_settle.ad K) fd := W.def_ 43 rfl rfl
abbrev pl_Endpoint_wait : Pl := .m "Endpoint" "wait"
theorem Wld.d_Endpoint_wait (W : Wld K mg) : ∃ fd, FunD K "wait" "Endpoint.wait" (defArgs s_Endpoint_wait) (defBody s_Endpoint_wait) (defScope s_Endpoint_wait) [] [] (pl_Endpoint_wait.ad K) fd := W.def_ 44 rfl rfl
abbrev pl_Endpoint_wind : Pl := .m "Endpoint" "wind"
theorem Wld.d_Endpoint_wind (W : Wld K mg) : ∃ fd, FunD K "wind" "Endpoint.wind" (defArgs s_Endpoint_wind) (defBody s_Endpoint_wind) (defScope s_Endpoint_wind) [] [] (pl_Endpoint_wind.ad K) fd := W.def_ 45 rfl rfl
abbrev pl_CodeReader___init__ : Pl := .m "CodeReader" "__init__"
theorem Wld.d_CodeReader___init__ (W : Wld K mg) : ∃ fd, FunD K "__init__" "CodeReader.__init__" (defArgs s_CodeReader___init__) (defBody s_CodeReader___init__) (defScope s_CodeReader___init__) [] [] (pl_CodeReader___init__.ad K) fd := W.def_ 46 rfl rfl
abbrev pl_CodeReader_number : Pl := .m "CodeReader" "number"
theorem Wld.d_CodeReader_number (W : Wld K mg) : ∃ fd, FunD K "number" "CodeReader.number" (defArgs s_CodeReader_number) (defBody s_CodeReader_number) (defScope s_CodeReader_number) [] [] (pl_CodeReader_number.ad K) fd := W.def_ 47 rfl rfl
abbrev pl_CodeReader_flag : Pl := .m "CodeReader" "flag"
theorem Wld.d_CodeReader_flag (W : Wld K mg) : ∃ fd, FunD K "flag" "CodeReader.flag" (defArgs s_CodeReader_flag) (defBody s_CodeReader_flag) (defScope s_CodeReader_flag) [] [] (pl_CodeReader_flag.ad K) fd := W.def_ 48 rfl rfl
abbrev pl_CodeReader_maybe : Pl := .m "CodeReader" "maybe"
theorem Wld.d_CodeReader_maybe (W : Wld K mg) : ∃ fd, FunD K "maybe" "CodeReader.maybe" (defArgs s_CodeReader_maybe) (defBody s_CodeReader_maybe) (defScope s_CodeReader_maybe) [] [] (pl_CodeReader_maybe.ad K) fd := W.def_ 49 rfl rfl
abbrev pl_CodeReader_choice : Pl := .m "CodeReader" "choice"
theorem Wld.d_CodeReader_choice (W : Wld K mg) : ∃ fd, FunD K "choice" "CodeReader.choice" (defArgs s_CodeReader_choice) (defBody s_CodeReader_choice) (defScope s_CodeReader_choice) [] [] (pl_CodeReader_choice.ad K) fd := W.def_ 50 rfl rfl
abbrev pl_CodeReader_many : Pl := .m "CodeReader" "many"
theorem Wld.d_CodeReader_many (W : Wld K mg) : ∃ fd, FunD K "many" "CodeReader.many" (defArgs s_CodeReader_many) (defBody s_CodeReader_many) (defScope s_CodeReader_many) [] [] (pl_CodeReader_many.ad K) fd := W.def_ 51 rfl rfl
abbrev pl_CodeReader_pairs : Pl := .m "CodeReader" "pairs"
theorem Wld.d_CodeReader_pairs (W : Wld K mg) : ∃ fd, FunD K "pairs" "CodeReader.pairs" (defArgs s_CodeReader_pairs) (defBody s_CodeReader_pairs) (defScope s_CodeReader_pairs) [] [] (pl_CodeReader_pairs.ad K) fd := W.def_ 52 rfl rfl
abbrev pl_CodeReader_finish : Pl := .m "CodeReader" "finish"
theorem Wld.d_CodeReader_finish (W : Wld K mg) : ∃ fd, FunD K "finish" "CodeReader.finish" (defArgs s_CodeReader_finish) (defBody s_CodeReader_finish) (defScope s_CodeReader_finish) [] [] (pl_CodeReader_finish.ad K) fd := W.def_ 53 rfl rfl
abbrev pl_write_maybe : Pl := .g "write_maybe"
theorem Wld.d_write_maybe (W : Wld K mg) : ∃ fd, FunD K "write_maybe" "write_maybe" (defArgs s_write_maybe) (defBody s_write_maybe) (defScope s_write_maybe) [] [] (pl_write_maybe.ad K) fd := W.def_ 54 rfl rfl
abbrev pl_write_many : Pl := .g "write_many"
theorem Wld.d_write_many (W : Wld K mg) : ∃ fd, FunD K "write_many" "write_many" (defArgs s_write_many) (defBody s_write_many) (defScope s_write_many) [] [] (pl_write_many.ad K) fd := W.def_ 55 rfl rfl
abbrev pl_write_pairs : Pl := .g "write_pairs"
theorem Wld.d_write_pairs (W : Wld K mg) : ∃ fd, FunD K "write_pairs" "write_pairs" (defArgs s_write_pairs) (defBody s_write_pairs) (defScope s_write_pairs) [] [] (pl_write_pairs.ad K) fd := W.def_ 56 rfl rfl
abbrev pl_write_sender : Pl := .g "write_sender"
theorem Wld.d_write_sender (W : Wld K mg) : ∃ fd, FunD K "write_sender" "write_sender" (defArgs s_write_sender) (defBody s_write_sender) (defScope s_write_sender) [] [] (pl_write_sender.ad K) fd := W.def_ 57 rfl rfl
abbrev pl_read_sender : Pl := .g "read_sender"
theorem Wld.d_read_sender (W : Wld K mg) : ∃ fd, FunD K "read_sender" "read_sender" (defArgs s_read_sender) (defBody s_read_sender) (defScope s_read_sender) [] [] (pl_read_sender.ad K) fd := W.def_ 58 rfl rfl
abbrev pl_write_receiver : Pl := .g "write_receiver"
theorem Wld.d_write_receiver (W : Wld K mg) : ∃ fd, FunD K "write_receiver" "write_receiver" (defArgs s_write_receiver) (defBody s_write_receiver) (defScope s_write_receiver) [] [] (pl_write_receiver.ad K) fd := W.def_ 59 rfl rfl
abbrev pl_read_receiver : Pl := .g "read_receiver"
theorem Wld.d_read_receiver (W : Wld K mg) : ∃ fd, FunD K "read_receiver" "read_receiver" (defArgs s_read_receiver) (defBody s_read_receiver) (defScope s_read_receiver) [] [] (pl_read_receiver.ad K) fd := W.def_ 60 rfl rfl
abbrev pl_write_trip : Pl := .g "write_trip"
theorem Wld.d_write_trip (W : Wld K mg) : ∃ fd, FunD K "write_trip" "write_trip" (defArgs s_write_trip) (defBody s_write_trip) (defScope s_write_trip) [] [] (pl_write_trip.ad K) fd := W.def_ 61 rfl rfl
abbrev pl_read_trip : Pl := .g "read_trip"
theorem Wld.d_read_trip (W : Wld K mg) : ∃ fd, FunD K "read_trip" "read_trip" (defArgs s_read_trip) (defBody s_read_trip) (defScope s_read_trip) [] [] (pl_read_trip.ad K) fd := W.def_ 62 rfl rfl
abbrev pl_write_control : Pl := .g "write_control"
theorem Wld.d_write_control (W : Wld K mg) : ∃ fd, FunD K "write_control" "write_control" (defArgs s_write_control) (defBody s_write_control) (defScope s_write_control) [] [] (pl_write_control.ad K) fd := W.def_ 63 rfl rfl
abbrev pl_read_control : Pl := .g "read_control"
theorem Wld.d_read_control (W : Wld K mg) : ∃ fd, FunD K "read_control" "read_control" (defArgs s_read_control) (defBody s_read_control) (defScope s_read_control) [] [] (pl_read_control.ad K) fd := W.def_ 64 rfl rfl
abbrev pl_Packet___init__ : Pl := .m "Packet" "__init__"
theorem Wld.d_Packet___init__ (W : Wld K mg) : ∃ fd, FunD K "__init__" "Packet.__init__" (defArgs s_Packet___init__) (defBody s_Packet___init__) (defScope s_Packet___init__) [] [("marked", V.bl false)] (pl_Packet___init__.ad K) fd := W.def_ 65 rfl rfl
abbrev pl_Packet___eq__ : Pl := .m "Packet" "__eq__"
theorem Wld.d_Packet___eq__ (W : Wld K mg) : ∃ fd, FunD K "__eq__" "Packet.__eq__" (defArgs s_Packet___eq__) (defBody s_Packet___eq__) (defScope s_Packet___eq__) [] [] (pl_Packet___eq__.ad K) fd := W.def_ 66 rfl rfl
abbrev pl_wrap : Pl := .g "wrap"
theorem Wld.d_wrap (W : Wld K mg) : ∃ fd, FunD K "wrap" "wrap" (defArgs s_wrap) (defBody s_wrap) (defScope s_wrap) [] [] (pl_wrap.ad K) fd := W.def_ 67 rfl rfl
abbrev pl_Segment___init__ : Pl := .m "Segment" "__init__"
theorem Wld.d_Segment___init__ (W : Wld K mg) : ∃ fd, FunD K "__init__" "Segment.__init__" (defArgs s_Segment___init__) (defBody s_Segment___init__) (defScope s_Segment___init__) [] [("echo", V.non), ("ack", V.non), ("syn", V.bl false), ("fin", V.bl false), ("reset", V.bl false), ("marked", V.bl false), ("cut", V.bl false), ("window", V.int 0), ("mss", V.non), ("scale", V.non), ("ranges_known", V.bl false), ("ranges", V.ref (dvAd K "Segment" "ranges")), ("stamp", V.non), ("data", V.ref (dvAd K "Segment" "data"))] (pl_Segment___init__.ad K) fd := W.def_ 68 rfl rfl
abbrev pl_Socket___init__ : Pl := .m "Socket" "__init__"
theorem Wld.d_Socket___init__ (W : Wld K mg) : ∃ fd, FunD K "__init__" "Socket.__init__" (defArgs s_Socket___init__) (defBody s_Socket___init__) (defScope s_Socket___init__) [] [("listened", V.bl false)] (pl_Socket___init__.ad K) fd := W.def_ 69 rfl rfl
abbrev pl_Socket_first : Pl := .p "Socket" "first"
theorem Wld.d_Socket_first (W : Wld K mg) : ∃ fd, FunD K "first" "Socket.first" (defArgs s_Socket_first) (defBody s_Socket_first) (defScope s_Socket_first) [] [] (pl_Socket_first.ad K) fd := W.def_ 70 rfl rfl
abbrev pl_Socket_to_segment : Pl := .m "Socket" "to_segment"
theorem Wld.d_Socket_to_segment (W : Wld K mg) : ∃ fd, FunD K "to_segment" "Socket.to_segment" (defArgs s_Socket_to_segment) (defBody s_Socket_to_segment) (defScope s_Socket_to_segment) [] [] (pl_Socket_to_segment.ad K) fd := W.def_ 71 rfl rfl
abbrev pl_octet_sum : Pl := .g "octet_sum"
theorem Wld.d_octet_sum (W : Wld K mg) : ∃ fd, FunD K "octet_sum" "octet_sum" (defArgs s_octet_sum) (defBody s_octet_sum) (defScope s_octet_sum) [] [] (pl_octet_sum.ad K) fd := W.def_ 72 rfl rfl
abbrev pl_checksum : Pl := .g "checksum"
theorem Wld.d_checksum (W : Wld K mg) : ∃ fd, FunD K "checksum" "checksum" (defArgs s_checksum) (defBody s_checksum) (defScope s_checksum) [] [] (pl_checksum.ad K) fd := W.def_ 73 rfl rfl
abbrev pl_write_number : Pl := .g "write_number"
theorem Wld.d_write_number (W : Wld K mg) : ∃ fd, FunD K "write_number" "write_number" (defArgs s_write_number) (defBody s_write_number) (defScope s_write_number) [] [] (pl_write_number.ad K) fd := W.def_ 74 rfl rfl
abbrev pl_write_option : Pl := .g "write_option"
theorem Wld.d_write_option (W : Wld K mg) : ∃ fd, FunD K "write_option" "write_option" (defArgs s_write_option) (defBody s_write_option) (defScope s_write_option) [] [] (pl_write_option.ad K) fd := W.def_ 75 rfl rfl
abbrev pl_write_pair : Pl := .g "write_pair"
theorem Wld.d_write_pair (W : Wld K mg) : ∃ fd, FunD K "write_pair" "write_pair" (defArgs s_write_pair) (defBody s_write_pair) (defScope s_write_pair) [] [] (pl_write_pair.ad K) fd := W.def_ 76 rfl rfl
abbrev pl_plain_options : Pl := .g "plain_options"
theorem Wld.d_plain_options (W : Wld K mg) : ∃ fd, FunD K "plain_options" "plain_options" (defArgs s_plain_options) (defBody s_plain_options) (defScope s_plain_options) [] [] (pl_plain_options.ad K) fd := W.def_ 77 rfl rfl
abbrev pl_fitting_ranges : Pl := .g "fitting_ranges"
theorem Wld.d_fitting_ranges (W : Wld K mg) : ∃ fd, FunD K "fitting_ranges" "fitting_ranges" (defArgs s_fitting_ranges) (defBody s_fitting_ranges) (defScope s_fitting_ranges) [] [] (pl_fitting_ranges.ad K) fd := W.def_ 78 rfl rfl
abbrev pl_write_options_options : Pl := .g "write_options_options"
theorem Wld.d_write_options_options (W : Wld K mg) : ∃ fd, FunD K "write_options" "write_options" (defArgs s_write_options_options) (defBody s_write_options_options) (defScope s_write_options_options) [] [] (pl_write_options_options.ad K) fd := W.def_ 79 rfl rfl
abbrev pl_flags_of : Pl := .g "flags_of"
theorem Wld.d_flags_of (W : Wld K mg) : ∃ fd, FunD K "flags_of" "flags_of" (defArgs s_flags_of) (defBody s_flags_of) (defScope s_flags_of) [] [] (pl_flags_of.ad K) fd := W.def_ 80 rfl rfl
abbrev pl_encode : Pl := .g "encode"
theorem Wld.d_encode (W : Wld K mg) : ∃ fd, FunD K "encode" "encode" (defArgs s_encode) (defBody s_encode) (defScope s_encode) [] [] (pl_encode.ad K) fd := W.def_ 81 rfl rfl
abbrev pl_Host___init__ : Pl := .m "Host" "__init__"
theorem Wld.d_Host___init__ (W : Wld K mg) : ∃ fd, FunD K "__init__" "Host.__init__" (defArgs s_Host___init__) (defBody s_Host___init__) (defScope s_Host___init__) [] [] (pl_Host___init__.ad K) fd := W.def_ 82 rfl rfl
abbrev pl_Host_sockets : Pl := .p "Host" "sockets"
theorem Wld.d_Host_sockets (W : Wld K mg) : ∃ fd, FunD K "sockets" "Host.sockets" (defArgs s_Host_sockets) (defBody s_Host_sockets) (defScope s_Host_sockets) [] [] (pl_Host_sockets.ad K) fd := W.def_ 83 rfl rfl
abbrev pl_Host_find : Pl := .m "Host" "find"
theorem Wld.d_Host_find (W : Wld K mg) : ∃ fd, FunD K "find" "Host.find" (defArgs s_Host_find) (defBody s_Host_find) (defScope s_Host_find) [] [] (pl_Host_find.ad K) fd := W.def_ 84 rfl rfl
abbrev pl_Host_connect : Pl := .m "Host" "connect"
theorem Wld.d_Host_connect (W : Wld K mg) : ∃ fd, FunD K "connect" "Host.connect" (defArgs s_Host_connect) (defBody s_Host_connect) (defScope s_Host_connect) [] [] (pl_Host_connect.ad K) fd := W.def_ 85 rfl rfl
abbrev pl_Host_listen : Pl := .m "Host" "listen"
theorem Wld.d_Host_listen (W : Wld K mg) : ∃ fd, FunD K "listen" "Host.listen" (defArgs s_Host_listen) (defBody s_Host_listen) (defScope s_Host_listen) [] [("backlog", V.int 8)] (pl_Host_listen.ad K) fd := W.def_ 86 rfl rfl
abbrev pl_Host_write : Pl := .m "Host" "write"
theorem Wld.d_Host_write (W : Wld K mg) : ∃ fd, FunD K "write" "Host.write" (defArgs s_Host_write) (defBody s_Host_write) (defScope s_Host_write) [] [] (pl_Host_write.ad K) fd := W.def_ 87 rfl rfl
abbrev pl_Host_finish : Pl := .m "Host" "finish"
theorem Wld.d_Host_finish (W : Wld K mg) : ∃ fd, FunD K "finish" "Host.finish" (defArgs s_Host_finish) (defBody s_Host_finish) (defScope s_Host_finish) [] [] (pl_Host_finish.ad K) fd := W.def_ 88 rfl rfl
abbrev pl_Host_abort : Pl := .m "Host" "abort"
theorem Wld.d_Host_abort (W : Wld K mg) : ∃ fd, FunD K "abort" "Host.abort" (defArgs s_Host_abort) (defBody s_Host_abort) (defScope s_Host_abort) [] [] (pl_Host_abort.ad K) fd := W.def_ 89 rfl rfl
abbrev pl_Host_tick : Pl := .m "Host" "tick"
theorem Wld.d_Host_tick (W : Wld K mg) : ∃ fd, FunD K "tick" "Host.tick" (defArgs s_Host_tick) (defBody s_Host_tick) (defScope s_Host_tick) [] [] (pl_Host_tick.ad K) fd := W.def_ 90 rfl rfl
abbrev pl_Host_take : Pl := .m "Host" "take"
theorem Wld.d_Host_take (W : Wld K mg) : ∃ fd, FunD K "take" "Host.take" (defArgs s_Host_take) (defBody s_Host_take) (defScope s_Host_take) [] [] (pl_Host_take.ad K) fd := W.def_ 91 rfl rfl
abbrev pl_Host_restart : Pl := .m "Host" "restart"
theorem Wld.d_Host_restart (W : Wld K mg) : ∃ fd, FunD K "restart" "Host.restart" (defArgs s_Host_restart) (defBody s_Host_restart) (defScope s_Host_restart) [] [] (pl_Host_restart.ad K) fd := W.def_ 92 rfl rfl
abbrev pl_Host_status : Pl := .m "Host" "status"
theorem Wld.d_Host_status (W : Wld K mg) : ∃ fd, FunD K "status" "Host.status" (defArgs s_Host_status) (defBody s_Host_status) (defScope s_Host_status) [] [] (pl_Host_status.ad K) fd := W.def_ 93 rfl rfl
abbrev pl_Host__known : Pl := .m "Host" "_known"
theorem Wld.d_Host__known (W : Wld K mg) : ∃ fd, FunD K "_known" "Host._known" (defArgs s_Host__known) (defBody s_Host__known) (defScope s_Host__known) [] [] (pl_Host__known.ad K) fd := W.def_ 94 rfl rfl
abbrev pl_Host__is_full : Pl := .m "Host" "_is_full"
theorem Wld.d_Host__is_full (W : Wld K mg) : ∃ fd, FunD K "_is_full" "Host._is_full" (defArgs s_Host__is_full) (defBody s_Host__is_full) (defScope s_Host__is_full) [] [] (pl_Host__is_full.ad K) fd := W.def_ 95 rfl rfl
abbrev pl_Host__add : Pl := .m "Host" "_add"
theorem Wld.d_Host__add (W : Wld K mg) : ∃ fd, FunD K "_add" "Host._add" (defArgs s_Host__add) (defBody s_Host__add) (defScope s_Host__add) [] [] (pl_Host__add.ad K) fd := W.def_ 96 rfl rfl
abbrev pl_Host__send : Pl := .m "Host" "_send"
theorem Wld.d_Host__send (W : Wld K mg) : ∃ fd, FunD K "_send" "Host._send" (defArgs s_Host__send) (defBody s_Host__send) (defScope s_Host__send) [] [] (pl_Host__send.ad K) fd := W.def_ 97 rfl rfl
abbrev pl_Host__post : Pl := .m "Host" "_post"
theorem Wld.d_Host__post (W : Wld K mg) : ∃ fd, FunD K "_post" "Host._post" (defArgs s_Host__post) (defBody s_Host__post) (defScope s_Host__post) [] [] (pl_Host__post.ad K) fd := W.def_ 98 rfl rfl
abbrev pl_check_port : Pl := .g "check_port"
theorem Wld.d_check_port (W : Wld K mg) : ∃ fd, FunD K "check_port" "check_port" (defArgs s_check_port) (defBody s_check_port) (defScope s_check_port) [] [] (pl_check_port.ad K) fd := W.def_ 99 rfl rfl
abbrev pl_Options___init__ : Pl := .m "Options" "__init__"
theorem Wld.d_Options___init__ (W : Wld K mg) : ∃ fd, FunD K "__init__" "Options.__init__" (defArgs s_Options___init__) (defBody s_Options___init__) (defScope s_Options___init__) [] [("ack_delay", V.int 0), ("keep_alive", V.int 0), ("nagle", V.bl false), ("control", V.str "reno")] (pl_Options___init__.ad K) fd := W.def_ 100 rfl rfl
abbrev pl_Options_shift : Pl := .p "Options" "shift"
theorem Wld.d_Options_shift (W : Wld K mg) : ∃ fd, FunD K "shift" "Options.shift" (defArgs s_Options_shift) (defBody s_Options_shift) (defScope s_Options_shift) [] [] (pl_Options_shift.ad K) fd := W.def_ 101 rfl rfl
abbrev pl_Options___eq__ : Pl := .m "Options" "__eq__"
theorem Wld.d_Options___eq__ (W : Wld K mg) : ∃ fd, FunD K "__eq__" "Options.__eq__" (defArgs s_Options___eq__) (defBody s_Options___eq__) (defScope s_Options___eq__) [] [] (pl_Options___eq__.ad K) fd := W.def_ 102 rfl rfl
abbrev pl_Options__values : Pl := .m "Options" "_values"
theorem Wld.d_Options__values (W : Wld K mg) : ∃ fd, FunD K "_values" "Options._values" (defArgs s_Options__values) (defBody s_Options__values) (defScope s_Options__values) [] [] (pl_Options__values.ad K) fd := W.def_ 103 rfl rfl
abbrev pl_write_options_saved : Pl := .g "write_options_saved"
theorem Wld.d_write_options_saved (W : Wld K mg) : ∃ fd, FunD K "write_options" "write_options" (defArgs s_write_options_saved) (defBody s_write_options_saved) (defScope s_write_options_saved) [] [] (pl_write_options_saved.ad K) fd := W.def_ 104 rfl rfl
abbrev pl_read_options : Pl := .g "read_options"
theorem Wld.d_read_options (W : Wld K mg) : ∃ fd, FunD K "read_options" "read_options" (defArgs s_read_options) (defBody s_read_options) (defScope s_read_options) [] [] (pl_read_options.ad K) fd := W.def_ 105 rfl rfl
abbrev pl_write_endpoint : Pl := .g "write_endpoint"
theorem Wld.d_write_endpoint (W : Wld K mg) : ∃ fd, FunD K "write_endpoint" "write_endpoint" (defArgs s_write_endpoint) (defBody s_write_endpoint) (defScope s_write_endpoint) [] [] (pl_write_endpoint.ad K) fd := W.def_ 106 rfl rfl
abbrev pl_read_endpoint : Pl := .g "read_endpoint"
theorem Wld.d_read_endpoint (W : Wld K mg) : ∃ fd, FunD K "read_endpoint" "read_endpoint" (defArgs s_read_endpoint) (defBody s_read_endpoint) (defScope s_read_endpoint) [] [] (pl_read_endpoint.ad K) fd := W.def_ 107 rfl rfl
abbrev pl_write_socket : Pl := .g "write_socket"
theorem Wld.d_write_socket (W : Wld K mg) : ∃ fd, FunD K "write_socket" "write_socket" (defArgs s_write_socket) (defBody s_write_socket) (defScope s_write_socket) [] [] (pl_write_socket.ad K) fd := W.def_ 108 rfl rfl
abbrev pl_read_socket : Pl := .g "read_socket"
theorem Wld.d_read_socket (W : Wld K mg) : ∃ fd, FunD K "read_socket" "read_socket" (defArgs s_read_socket) (defBody s_read_socket) (defScope s_read_socket) [] [] (pl_read_socket.ad K) fd := W.def_ 109 rfl rfl
abbrev pl_write_packet : Pl := .g "write_packet"
theorem Wld.d_write_packet (W : Wld K mg) : ∃ fd, FunD K "write_packet" "write_packet" (defArgs s_write_packet) (defBody s_write_packet) (defScope s_write_packet) [] [] (pl_write_packet.ad K) fd := W.def_ 110 rfl rfl
abbrev pl_read_packet : Pl := .g "read_packet"
theorem Wld.d_read_packet (W : Wld K mg) : ∃ fd, FunD K "read_packet" "read_packet" (defArgs s_read_packet) (defBody s_read_packet) (defScope s_read_packet) [] [] (pl_read_packet.ad K) fd := W.def_ 111 rfl rfl
abbrev pl_write_line : Pl := .g "write_line"
theorem Wld.d_write_line (W : Wld K mg) : ∃ fd, FunD K "write_line" "write_line" (defArgs s_write_line) (defBody s_write_line) (defScope s_write_line) [] [] (pl_write_line.ad K) fd := W.def_ 112 rfl rfl
abbrev pl_save_host : Pl := .g "save_host"
theorem Wld.d_save_host (W : Wld K mg) : ∃ fd, FunD K "save_host" "save_host" (defArgs s_save_host) (defBody s_save_host) (defScope s_save_host) [] [] (pl_save_host.ad K) fd := W.def_ 113 rfl rfl
abbrev pl_read_number : Pl := .g "read_number"
theorem Wld.d_read_number (W : Wld K mg) : ∃ fd, FunD K "read_number" "read_number" (defArgs s_read_number) (defBody s_read_number) (defScope s_read_number) [] [] (pl_read_number.ad K) fd := W.def_ 114 rfl rfl
abbrev pl_LineReader___init__ : Pl := .m "LineReader" "__init__"
theorem Wld.d_LineReader___init__ (W : Wld K mg) : ∃ fd, FunD K "__init__" "LineReader.__init__" (defArgs s_LineReader___init__) (defBody s_LineReader___init__) (defScope s_LineReader___init__) [] [] (pl_LineReader___init__.ad K) fd := W.def_ 115 rfl rfl
abbrev pl_LineReader_next_code : Pl := .m "LineReader" "next_code"
theorem Wld.d_LineReader_next_code (W : Wld K mg) : ∃ fd, FunD K "next_code" "LineReader.next_code" (defArgs s_LineReader_next_code) (defBody s_LineReader_next_code) (defScope s_LineReader_next_code) [] [] (pl_LineReader_next_code.ad K) fd := W.def_ 116 rfl rfl
abbrev pl_read_listener : Pl := .g "read_listener"
theorem Wld.d_read_listener (W : Wld K mg) : ∃ fd, FunD K "read_listener" "read_listener" (defArgs s_read_listener) (defBody s_read_listener) (defScope s_read_listener) [] [] (pl_read_listener.ad K) fd := W.def_ 117 rfl rfl
abbrev pl_load_host : Pl := .g "load_host"
theorem Wld.d_load_host (W : Wld K mg) : ∃ fd, FunD K "load_host" "load_host" (defArgs s_load_host) (defBody s_load_host) (defScope s_load_host) [] [] (pl_load_host.ad K) fd := W.def_ 118 rfl rfl
abbrev pl__law_rows : Pl := .g "_law_rows"
theorem Wld.d__law_rows (W : Wld K mg) : ∃ fd, FunD K "_law_rows" "_law_rows" (defArgs s__law_rows) (defBody s__law_rows) (defScope s__law_rows) [] [] (pl__law_rows.ad K) fd := W.def_ 119 rfl rfl
abbrev pl__law_options : Pl := .g "_law_options"
theorem Wld.d__law_options (W : Wld K mg) : ∃ fd, FunD K "_law_options" "_law_options" (defArgs s__law_options) (defBody s__law_options) (defScope s__law_options) [] [] (pl__law_options.ad K) fd := W.def_ 120 rfl rfl
abbrev pl__law_head : Pl := .g "_law_head"
theorem Wld.d__law_head (W : Wld K mg) : ∃ fd, FunD K "_law_head" "_law_head" (defArgs s__law_head) (defBody s__law_head) (defScope s__law_head) [] [] (pl__law_head.ad K) fd := W.def_ 121 rfl rfl
abbrev pl__law_endpoint : Pl := .g "_law_endpoint"
theorem Wld.d__law_endpoint (W : Wld K mg) : ∃ fd, FunD K "_law_endpoint" "_law_endpoint" (defArgs s__law_endpoint) (defBody s__law_endpoint) (defScope s__law_endpoint) [] [] (pl__law_endpoint.ad K) fd := W.def_ 122 rfl rfl
abbrev pl__law_shift : Pl := .g "_law_shift"
theorem Wld.d__law_shift (W : Wld K mg) : ∃ fd, FunD K "_law_shift" "_law_shift" (defArgs s__law_shift) (defBody s__law_shift) (defScope s__law_shift) [] [] (pl__law_shift.ad K) fd := W.def_ 123 rfl rfl
abbrev pl__law_packet : Pl := .g "_law_packet"
theorem Wld.d__law_packet (W : Wld K mg) : ∃ fd, FunD K "_law_packet" "_law_packet" (defArgs s__law_packet) (defBody s__law_packet) (defScope s__law_packet) [] [] (pl__law_packet.ad K) fd := W.def_ 124 rfl rfl
abbrev pl__law_line : Pl := .g "_law_line"
theorem Wld.d__law_line (W : Wld K mg) : ∃ fd, FunD K "_law_line" "_law_line" (defArgs s__law_line) (defBody s__law_line) (defScope s__law_line) [] [] (pl__law_line.ad K) fd := W.def_ 125 rfl rfl
abbrev pl__law_text : Pl := .g "_law_text"
theorem Wld.d__law_text (W : Wld K mg) : ∃ fd, FunD K "_law_text" "_law_text" (defArgs s__law_text) (defBody s__law_text) (defScope s__law_text) [] [] (pl__law_text.ad K) fd := W.def_ 126 rfl rfl
abbrev pl__law_socket : Pl := .g "_law_socket"
theorem Wld.d__law_socket (W : Wld K mg) : ∃ fd, FunD K "_law_socket" "_law_socket" (defArgs s__law_socket) (defBody s__law_socket) (defScope s__law_socket) [] [] (pl__law_socket.ad K) fd := W.def_ 127 rfl rfl
abbrev pl__law_build : Pl := .g "_law_build"
theorem Wld.d__law_build (W : Wld K mg) : ∃ fd, FunD K "_law_build" "_law_build" (defArgs s__law_build) (defBody s__law_build) (defScope s__law_build) [] [] (pl__law_build.ad K) fd := W.def_ 128 rfl rfl
abbrev pl_law : Pl := .g "law"
theorem Wld.d_law (W : Wld K mg) : ∃ fd, FunD K "law" "law" (defArgs s_law) (defBody s_law) (defScope s_law) [] [] (pl_law.ad K) fd := W.def_ 129 rfl rfl
abbrev pl_Cubic___init__ : Pl := .m "Cubic" "__init__"
theorem Wld.d_Cubic___init__ (W : Wld K mg) : ∃ (oc : Value) (od : Option Addr) (dV kV doc pm : Value) (an : Option Addr) (cdv ct : Value) (osl : Array (Option Value)) (cc : Addr), K.lookup (pl_Cubic___init__.ad K) = some ⟨oc, od, .func (PySem.W.fnX "__init__" "Cubic.__init__" (defArgs s_Cubic___init__) (defBody s_Cubic___init__) (defScope s_Cubic___init__) [("__class__", cc)] dV kV doc pm an cdv ct), osl⟩ ∧ PySem.W.codeIn K cdv "Cubic.__init__" = true ∧ DflV K dV [] := W.defS 130 rfl rfl
abbrev pl_Reno___init__ : Pl := .m "Reno" "__init__"
theorem Wld.d_Reno___init__ (W : Wld K mg) : ∃ (oc : Value) (od : Option Addr) (dV kV doc pm : Value) (an : Option Addr) (cdv ct : Value) (osl : Array (Option Value)) (cc : Addr), K.lookup (pl_Reno___init__.ad K) = some ⟨oc, od, .func (PySem.W.fnX "__init__" "Reno.__init__" (defArgs s_Reno___init__) (defBody s_Reno___init__) (defScope s_Reno___init__) [("__class__", cc)] dV kV doc pm an cdv ct), osl⟩ ∧ PySem.W.codeIn K cdv "Reno.__init__" = true ∧ DflV K dV [] := W.defS 131 rfl rfl

end
end K99
end
/-! part H3 -/
section
set_option maxHeartbeats 0
noncomputable section
namespace K99
open PySem PySem.Spec PyProof.Rows L2 PySem.W PySem.Calls HandSHeadRun
abbrev R : OpenRow := OpenLaw.row PySem.Challenge.rw_throughline_k99_whole_saved_text
abbrev qv : Program := view R.prog [129]
def cutN : Nat := 1056
def cutStmt : Nat := 49
def cutToks : Nat := 1601
def cutPos : Pos := ⟨626, 0, 630, 24⟩
def cutEp : Nat := 45
def finEp : Nat := 112
def finN : Nat := 1882
def cutD0 : List (Value × Value) := [(.str "__name__" 165, .str "throughline.errors" 1394), (.str "__doc__" 166, .none), (.str "__package__" 167, .none), (.str "__loader__" 168, .builtin "__main__.__loader__#opaque"), (.str "__spec__" 169, .none), (.str "__annotations__" 170, .ref 6), (.str "__builtins__" 171, .ref 4), (.str "__file__" 173, .str "/claim/cut.py" 172), (.str "__cached__" 174, .none), (.str "_wall" 193, .ref 21), (.str "Piece" 288, .ref 72), (.str "is_due" 298, .ref 83), (.str "CIRCLE_leaving" 302, .int 4294967296 301), (.str "next_output" 312, .ref 90), (.str "next_reset" 319, .ref 97), (.str "allowance" 327, .ref 104), (.str "spend" 336, .ref 111), (.str "send" 345, .ref 118), (.str "dress" 354, .ref 125), (.str "open_phase" 365, .ref 132), (.str "next_phase" 376, .ref 139), (.str "Control" 488, .ref 212), (.str "Cubic" 558, .ref 270), (.str "Reno" 619, .ref 319), (.str "RoundTrip" 694, .ref 374), (.str "Receiver" 849, .ref 503), (.str "count_inside" 863, .ref 514), (.str "first_free" 873, .ref 521), (.str "free_stop" 884, .ref 528), (.str "loss_edge" 895, .ref 535)]
def cutD1 : List (Value × Value) := [(.str "Sender" 1129, .ref 705), (.str "make_control" 1139, .ref 716), (.str "Endpoint" 1393, .ref 897), (.str "ThroughlineError" 1413, .ref 911), (.str "InvalidOptions" 1429, .ref 924), (.str "InvalidPort" 1445, .ref 936), (.str "InvalidAmount" 1461, .ref 948), (.str "UnknownSocket" 1477, .ref 960), (.str "SocketInUse" 1493, .ref 972), (.str "TooManySockets" 1509, .ref 984), (.str "ConnectionEnded" 1525, .ref 996), (.str "AlreadyFinished" 1541, .ref 1008), (.str "OwnAddress" 1557, .ref 1020), (.str "TickInThePast" 1573, .ref 1032), (.str "InvalidText" 1600, .ref 1053)]
def cutD : List (Value × Value) := cutD0 ++ (cutD1)
def finD0 : List (Value × Value) := [(.str "__name__" 165, .str "law_throughline_k99_whole_saved_text" 2722), (.str "__doc__" 166, .none), (.str "__package__" 167, .none), (.str "__loader__" 168, .builtin "__main__.__loader__#opaque"), (.str "__spec__" 169, .none), (.str "__annotations__" 170, .ref 6), (.str "__builtins__" 171, .ref 4), (.str "__file__" 173, .str "/claim/cut.py" 172), (.str "__cached__" 174, .none), (.str "_wall" 193, .ref 21), (.str "Piece" 288, .ref 72), (.str "is_due" 298, .ref 83), (.str "CIRCLE_leaving" 302, .int 4294967296 301), (.str "next_output" 312, .ref 90), (.str "next_reset" 319, .ref 97), (.str "allowance" 327, .ref 104), (.str "spend" 336, .ref 111), (.str "send" 345, .ref 118), (.str "dress" 354, .ref 125), (.str "open_phase" 365, .ref 132), (.str "next_phase" 376, .ref 139), (.str "Control" 488, .ref 212), (.str "Cubic" 558, .ref 270), (.str "Reno" 619, .ref 319), (.str "RoundTrip" 694, .ref 374), (.str "Receiver" 849, .ref 503), (.str "count_inside" 863, .ref 514), (.str "first_free" 873, .ref 521), (.str "free_stop" 884, .ref 528), (.str "loss_edge" 895, .ref 535)]
def finD1 : List (Value × Value) := [(.str "Sender" 1129, .ref 705), (.str "make_control" 1139, .ref 716), (.str "Endpoint" 1393, .ref 897), (.str "ThroughlineError" 1413, .ref 911), (.str "InvalidOptions" 1429, .ref 924), (.str "InvalidPort" 1445, .ref 936), (.str "InvalidAmount" 1461, .ref 948), (.str "UnknownSocket" 1477, .ref 960), (.str "SocketInUse" 1493, .ref 972), (.str "TooManySockets" 1509, .ref 984), (.str "ConnectionEnded" 1525, .ref 996), (.str "AlreadyFinished" 1541, .ref 1008), (.str "OwnAddress" 1557, .ref 1020), (.str "TickInThePast" 1573, .ref 1032), (.str "InvalidText" 1600, .ref 1053), (.str "CodeReader" 1691, .ref 1124), (.str "write_maybe" 1698, .ref 1135), (.str "write_many" 1705, .ref 1142), (.str "write_pairs" 1715, .ref 1149), (.str "write_sender" 1723, .ref 1156), (.str "read_sender" 1732, .ref 1163), (.str "write_receiver" 1738, .ref 1168), (.str "read_receiver" 1751, .ref 1175), (.str "write_trip" 1758, .ref 1182), (.str "read_trip" 1767, .ref 1189), (.str "write_control" 1775, .ref 1196), (.str "read_control" 1781, .ref 1201), (.str "Packet" 1835, .ref 1233), (.str "WRAP" 1839, .int 4294967296 1838), (.str "wrap" 1847, .ref 1244)]
def finD2 : List (Value × Value) := [(.str "Segment" 1944, .ref 1279), (.str "CIRCLE_socket" 1948, .int 4294967296 1947), (.str "FACTOR" 1950, .int 2654435761 1949), (.str "Socket" 2058, .ref 1356), (.str "MODULUS" 2062, .int 65535 2061), (.str "octet_sum" 2074, .ref 1367), (.str "checksum" 2084, .ref 1374), (.str "write_number" 2096, .ref 1381), (.str "MOST" 2100, .int 40 2099), (.str "write_option" 2108, .ref 1388), (.str "write_pair" 2115, .ref 1395), (.str "plain_options" 2124, .ref 1402), (.str "fitting_ranges" 2132, .ref 1409), (.str "write_options" 2143, .ref 1710), (.str "write_options_options" 2144, .ref 1416), (.str "HEADER" 2148, .int 20 2147), (.str "flags_of" 2156, .ref 1423), (.str "encode" 2168, .ref 1430), (.str "Host" 2441, .ref 1629), (.str "check_port" 2448, .ref 1640), (.str "GREATEST" 2452, .int 1073741824 2451), (.str "Options" 2556, .ref 1696), (.str "TITLE" 2560, .str "throughline host 1" 2559), (.str "DIGITS" 2562, .str "0123456789" 2561), (.str "CONTROLS" 2565, .ref 1701), (.str "PHASES" 2576, .ref 1702), (.str "CAUSES" 2583, .ref 1703), (.str "write_options_saved" 2593, .ref 1710), (.str "read_options" 2599, .ref 1715), (.str "write_endpoint" 2607, .ref 1722)]
def finD3 : List (Value × Value) := [(.str "read_endpoint" 2616, .ref 1729), (.str "write_socket" 2624, .ref 1736), (.str "read_socket" 2630, .ref 1741), (.str "write_packet" 2637, .ref 1748), (.str "read_packet" 2648, .ref 1755), (.str "write_line" 2654, .ref 1760), (.str "save_host" 2660, .ref 1765), (.str "read_number" 2669, .ref 1772), (.str "LineReader" 2705, .ref 1794), (.str "read_listener" 2715, .ref 1805), (.str "load_host" 2721, .ref 1810), (.str "_law_rows" 2734, .ref 1817), (.str "_law_options" 2745, .ref 1824), (.str "_law_head" 2753, .ref 1831), (.str "_law_endpoint" 2765, .ref 1838), (.str "_law_shift" 2774, .ref 1845), (.str "_law_packet" 2786, .ref 1852), (.str "_law_line" 2792, .ref 1857), (.str "_law_text" 2798, .ref 1862), (.str "_law_socket" 2804, .ref 1867), (.str "_law_build" 2816, .ref 1874), (.str "law" 2830, .ref 1881)]
def finD : List (Value × Value) := finD0 ++ (finD1 ++ (finD2 ++ (finD3)))
def cutF : List Value := [.int 1 0, .int 0 0, .ref 20, .int 5 0, .int 0 0, .ref 27, .int 41 0, .int 0 0, .ref 82, .int 45 0, .int 0 0, .ref 89, .int 66 0, .int 0 0, .ref 96, .int 71 0, .int 0 0, .ref 103, .int 75 0, .int 0 0, .ref 110, .int 80 0, .int 0 0, .ref 117, .int 85 0, .int 0 0, .ref 124, .int 102 0, .int 0 0, .ref 131, .int 108 0, .int 0 0, .ref 138, .int 119 0, .int 0 0, .ref 145, .int 162 0, .int 0 0, .ref 223, .int 183 0, .int 0 0, .ref 279, .int 201 0, .int 0 0, .ref 327, .int 227 0, .int 0 0, .ref 384, .int 301 0, .int 0 0, .ref 513, .int 306 0, .int 0 0, .ref 520, .int 311 0, .int 0 0, .ref 527, .int 316 0, .int 0 0, .ref 534, .int 324 0, .int 0 0, .ref 541, .int 451 0, .int 0 0, .ref 715, .int 455 0, .int 0 0, .ref 722, .int 604 0, .int 0 0, .ref 907, .int 606 0, .int 0 0, .ref 920, .int 608 0, .int 0 0, .ref 932, .int 610 0, .int 0 0, .ref 944, .int 612 0, .int 0 0, .ref 956, .int 614 0, .int 0 0, .ref 968, .int 616 0, .int 0 0, .ref 980, .int 618 0, .int 0 0, .ref 992, .int 620 0, .int 0 0, .ref 1004, .int 622 0, .int 0 0, .ref 1016, .int 624 0, .int 0 0, .ref 1028, .int 626 0, .int 0 0, .ref 1041]
def as10 : List Nat := [2, 29, 30, 31, 37, 38, 52, 53, 54, 71, 72, 82, 83, 89, 90, 96, 97, 103, 104, 110, 111, 117, 118, 124, 125, 138, 139, 152, 153, 211, 212, 220, 231, 232, 269, 270, 276, 287, 288, 318, 319, 334, 335, 341, 342, 373, 374, 391, 392, 398, 399, 400, 414, 415, 416, 422, 423, 424, 502, 503]
def as11 : List Nat := [513, 514, 520, 521, 548, 549, 555, 556, 557, 563, 564, 565, 571, 572, 573, 579, 580, 581, 595, 596, 602, 603, 609, 610, 623, 624, 630, 631, 632, 638, 639, 666, 667, 673, 674, 704, 705, 715, 716, 729, 730, 746, 747, 748, 762, 763, 764, 770, 771, 772, 778, 779, 780, 794, 795, 801, 802, 815, 816, 837]
def as12 : List Nat := [838, 844, 845, 851, 852, 858, 859, 865, 866, 896, 897]
def as1 : List Nat := as10 ++ (as11 ++ (as12))
def as20 : List Nat := [1068, 1069, 1082, 1083, 1089, 1090, 1096, 1097, 1103, 1104, 1108, 1109, 1113, 1114, 1120, 1121, 1123, 1124, 1134, 1135, 1141, 1142, 1148, 1149, 1155, 1156, 1162, 1163, 1167, 1168, 1174, 1175, 1181, 1182, 1188, 1189, 1195, 1196, 1200, 1201, 1209, 1215, 1216, 1229, 1230, 1232, 1233, 1243, 1244, 1252, 1253, 1254, 1260, 1261, 1278, 1279, 1291, 1297, 1298, 1304]
def as21 : List Nat := [1305, 1306, 1324, 1325, 1355, 1356, 1366, 1367, 1373, 1374, 1380, 1381, 1387, 1388, 1394, 1395, 1401, 1402, 1408, 1409, 1415, 1416, 1422, 1423, 1429, 1430, 1443, 1444, 1448, 1449, 1450, 1456, 1457, 1463, 1464, 1465, 1471, 1472, 1492, 1493, 1506, 1507, 1513, 1514, 1534, 1535, 1541, 1542, 1548, 1549, 1562, 1563, 1576, 1577, 1583, 1584, 1597, 1598, 1618, 1619]
def as22 : List Nat := [1625, 1626, 1628, 1629, 1639, 1640, 1648, 1654, 1655, 1677, 1678, 1679, 1685, 1686, 1692, 1693, 1695, 1696, 1701, 1702, 1703, 1709, 1710, 1714, 1715, 1721, 1722, 1728, 1729, 1735, 1736, 1740, 1741, 1747, 1748, 1754, 1755, 1759, 1760, 1764, 1765, 1771, 1772, 1785, 1786, 1790, 1791, 1793, 1794, 1804, 1805, 1809, 1810, 1816, 1817, 1823, 1824, 1830, 1831, 1837]
def as23 : List Nat := [1838, 1844, 1845, 1851, 1852, 1856, 1857, 1861, 1862, 1866, 1867, 1873, 1874, 1880, 1881]
def as2 : List Nat := as20 ++ (as21 ++ (as22 ++ (as23)))
def cutNames0 : List Str := ["_wall", "Piece", "is_due", "next_output", "next_reset", "allowance", "spend", "send", "dress", "open_phase", "next_phase", "Control", "Cubic", "Reno", "RoundTrip", "Receiver", "count_inside", "first_free", "free_stop", "loss_edge", "Sender", "make_control", "Endpoint", "ThroughlineError", "InvalidOptions"]
def cutNames1 : List Str := ["InvalidPort", "InvalidAmount", "UnknownSocket", "SocketInUse", "TooManySockets", "ConnectionEnded", "AlreadyFinished", "OwnAddress", "TickInThePast", "InvalidText"]
def cutNames : List Str := cutNames0 ++ (cutNames1)

section
variable (st : SharedT → Thread → Option (SharedT × Thread)) (n0 : Nat) (ann : Option Value)
def goG : Nat → SharedT → Thread → Option (SharedT × Thread)
  | 0, s, t => some (s, t)
  | m + 1, s, t => match through t with
    | true => none
    | false => match stepOk n0 ann t with
      | false => none
      | true => match st s t with
        | some y => frS y.1 fun z => goG m z y.2
        | none => none
def segF : Nat → SharedT → Thread → Option (Flow × SharedT × Code × Pos)
  | 0, _, _ => none
  | m + 1, s, t => match endAt 1 t with
    | some f => some (f, s, t.code, t.pos)
    | none => match stepOk n0 ann t with
      | false => none
      | true => match st s t with
        | some y => frS y.1 fun z => segF m z y.2
        | none => none
end
section
variable {tb : String → Option Builtin} {p : Program} {w : World} {n0 : Nat} {ann : Option Value}
theorem goG_ok : ∀ {m : Nat} {s s' : SharedT} {t t' : Thread}, goG (stepT (denote tb) p w) n0 ann m s t = some (s', t') → topGo tb p w n0 ann m s.abs t = some (s'.abs, t')
  | 0, s, s', t, t', h => by
    obtain ⟨rfl, rfl⟩ : s = s' ∧ t = t' := by simpa [goG] using h
    rfl
  | m + 1, s, s', t, t', h => by
    unfold goG at h
    unfold topGo
    cases h1 : through t with
    | true => rw [h1] at h; cases h
    | false =>
      rw [h1] at h
      cases h2 : stepOk n0 ann t with
      | false => rw [h2] at h; cases h
      | true =>
        rw [h2] at h
        cases h3 : stepT (denote tb) p w s t with
        | none => rw [h3] at h; cases h
        | some y =>
          rw [h3] at h
          have h4 : (frS y.1 fun z => goG (stepT (denote tb) p w) n0 ann m z y.2) = some (s', t') := h
          rw [frS_eq] at h4
          have h5 := goG_ok h4
          rw [stepT_spec (s' := y.1) (t' := y.2) h3]
          exact h5
theorem segF_ok : ∀ {m : Nat} {s s' : SharedT} {t : Thread} {f : Flow} {c : Code} {ps : Pos}, segF (stepT (denote tb) p w) n0 ann m s t = some (f, s', c, ps) → segRun tb p w n0 ann 1 m s.abs t = some (f, s'.abs, c, ps)
  | 0, s, s', t, f, c, ps, h => by cases h
  | m + 1, s, s', t, f, c, ps, h => by
    unfold segF at h
    unfold segRun
    cases h1 : endAt 1 t with
    | some g =>
      rw [h1] at h
      obtain ⟨rfl, rfl, rfl, rfl⟩ : g = f ∧ s = s' ∧ t.code = c ∧ t.pos = ps := by simpa using h
      rfl
    | none =>
      rw [h1] at h
      cases h2 : stepOk n0 ann t with
      | false => rw [h2] at h; cases h
      | true =>
        rw [h2] at h
        cases h3 : stepT (denote tb) p w s t with
        | none => rw [h3] at h; cases h
        | some y =>
          rw [h3] at h
          have h4 : (frS y.1 fun z => segF (stepT (denote tb) p w) n0 ann m z y.2) = some (f, s', c, ps) := h
          rw [frS_eq] at h4
          have h5 := segF_ok h4
          rw [stepT_spec (s' := y.1) (t' := y.2) h3]
          exact h5
end
/-! ### a tree of what an own function says -/
def skT (g : Nat → Obj) : Nat → (Nat → Nat) → BT
  | 0, _ => .nil
  | d + 1, φ => .node (g (φ 0)) (skT g d fun j => φ (2 * j + 1)) (skT g d fun j => φ (2 * j + 2))
theorem skT_get (g : Nat → Obj) : ∀ (d : Nat) (φ : Nat → Nat) (i : Nat), i + 1 < 2 ^ d → (skT g d φ).get i = some (g (φ i))
  | 0, φ, i, h => by
    have : i + 1 < 1 := h
    omega
  | d + 1, φ, i, h => by
    have h2 : i + 1 < 2 * 2 ^ d := by rw [Nat.pow_succ] at h; omega
    show BT.get (.node (g (φ 0)) (skT g d fun j => φ (2 * j + 1)) (skT g d fun j => φ (2 * j + 2))) i = _
    unfold BT.get
    cases e : Nat.beq i 0 with
    | true =>
      have e2 : i = 0 := Nat.eq_of_beq_eq_true e
      rw [e2]
    | false =>
      have e2 : i ≠ 0 := Nat.ne_of_beq_eq_false e
      cases e3 : Nat.beq (i % 2) 1 with
      | true =>
        have e4 : i % 2 = 1 := Nat.eq_of_beq_eq_true e3
        show (skT g d fun j => φ (2 * j + 1)).get (i / 2) = _
        rw [skT_get g d _ (i / 2) (by omega)]
        show some (g (φ (2 * (i / 2) + 1))) = _
        rw [show 2 * (i / 2) + 1 = i by omega]
      | false =>
        have e4 : i % 2 ≠ 1 := Nat.ne_of_beq_eq_false e3
        show (skT g d fun j => φ (2 * j + 2)).get (i / 2 - 1) = _
        rw [skT_get g d _ (i / 2 - 1) (by omega)]
        show some (g (φ (2 * (i / 2 - 1) + 2))) = _
        rw [show 2 * (i / 2 - 1) + 2 = i by omega]
theorem absHeap_of {t t' : BT} {n : Nat} {life : Life} (h : ∀ i, i < n → (t.get i).getD default = (t'.get i).getD default) : absHeap t n life = absHeap t' n life := by
  unfold absHeap BT.list
  congr 2
  apply List.map_congr_left
  intro i hi
  exact h i (List.mem_range.mp hi)
/-! ### the state at the cut -/
def mkD (l : List (Value × Value)) (ep : Nat) (hf : Nat → Int) : Obj := ⟨.type "dict", none, .dict (l.zipIdx.map fun q => (⟨hf q.2, q.1.1, q.1.2⟩ : DictEntry)).toArray ep, #[]⟩
def mkF (l : List Value) : Obj := ⟨.none, none, .fields l.toArray, #[]⟩
def seeD (o : Obj) : Value × Option Addr × Nat × List (Option Value) × List (Value × Value) := match o with
  | ⟨c, d, .dict es n, sl⟩ => (c, d, n, sl.toList, es.toList.map fun e => (e.key, e.val))
  | _ => (.none, none, 0, [], [])
def codO : Obj := ⟨.type "code", none, .fields #[.str "<module>" 182, .str "<module>" 183, .str "/claim/cut.py" 184, .int 1 0, .int 0 0, .int 0 0, .int 0 0, .int 0 0, .ref 11, .bool false, .int 181 0, .ref 12, .none, .none, .none, .none, .int 185 0, .int 1 0, .str "/claim/cut.py" 186], #[]⟩
def hfOf (o : Obj) (i : Nat) : Int := match o with
  | ⟨_, _, .dict es _, _⟩ => (match es.toList[i]? with
    | some e => e.hash
    | none => 0)
  | _ => 0
theorem mkD_of {o : Obj} {l : List (Value × Value)} {ep : Nat} (hl : l ≠ []) (h : seeD o = (.type "dict", none, ep, [], l)) : o = mkD l ep (hfOf o) := by
  obtain ⟨c, d, dt, sl⟩ := o
  cases dt with
  | dict es n =>
    have h2 : (c, d, n, sl.toList, es.toList.map fun e => (e.key, e.val)) = (Value.type "dict", (none : Option Addr), ep, ([] : List (Option Value)), l) := h
    simp only [Prod.mk.injEq] at h2
    obtain ⟨rfl, rfl, rfl, h4, rfl⟩ := h2
    have h5 : sl = #[] := by
      rcases sl with ⟨sl⟩
      have : sl = [] := h4
      rw [this]
    subst h5
    unfold mkD
    congr 2
    rcases es with ⟨es⟩
    congr 1
    show es = ((es.map fun e => (e.key, e.val)).zipIdx.map fun q => _)
    apply List.ext_getElem?
    intro i
    rw [List.getElem?_map, List.getElem?_zipIdx, List.getElem?_map]
    cases e : es[i]? with
    | none => rfl
    | some y =>
      show some y = some ⟨_, _, _⟩
      have : hfOf ⟨Value.type "dict", none, .dict ⟨es⟩ n, #[]⟩ (0 + i) = y.hash := by
        show (match es[0 + i]? with
          | some e => e.hash
          | none => 0) = _
        rw [Nat.zero_add, e]
      simp only [this]
  | _ =>
    exfalso
    have h2 := congrArg (fun z => z.2.2.2.2) h
    exact hl h2.symm
def bootO (w : World) (i : Nat) : Obj := (boot_heap w.params).objs.toList.getD i default
/-- what is known at the cut: the boot's own, the names, the lines; all else is open -/
def gMid (w : World) (f : Nat → Obj) (hf : Nat → Int) (i : Nat) : Obj := match Nat.beq i 3 with
  | true => mkD cutD cutEp hf
  | false => match Nat.beq i 12 with
    | true => mkF cutF
    | false => match Nat.beq i 13 with
      | true => codO
      | false => match Nat.blt i 11 with
        | true => bootO w i
        | false => f i
abbrev P0 : Pos := ⟨0, 0, 0, 0⟩
abbrev envT : Env := { scope := R.prog.main.scope, locals := mainNs, globals := mainNs, cells := [], code := .ref 13, frame := some 14 }
abbrev bodyT : List Stmt := behindTheImports R.prog
abbrev codeT : Code := .body bodyT envT
def midS (w : World) (os : OsState) (f : Nat → Obj) (hf : Nat → Int) : SharedT := ⟨skT (gMid w f hf) 11 fun i => i, cutN, {}, #[], boot_drawn, cutToks, os⟩
/-! the library's twins -/
def execsQ := PySem.W.Fast.tw12563942051412417395
def blockQ := PySem.W.Fast.tw1066825118222455980
def leavQ := PySem.W.Fast.tw9442747609961115081
theorem execsQ_eq : @PySem.execs = execsQ := PySem.W.Fast.te12563942051412417395
theorem blockQ_eq : @PySem.blockStart = blockQ := PySem.W.Fast.te1066825118222455980
theorem leavQ_eq : @PySem.leaving = leavQ := PySem.W.Fast.te9442747609961115081
def thA : Thread := ⟨denQ tabQ codeT, codeT, P0, [topFrame P0]⟩
def thB : Thread := ⟨(blockQ bodyT envT).wrap (fun _ => doneF .next) deadEnd id id, codeT, P0, [topFrame P0]⟩
def thC : Thread := ⟨(execsQ (bodyT.take cutStmt) envT).wrap doneF deadEnd id id, codeT, P0, [topFrame P0]⟩
def thD : Thread := ⟨(execsQ (bodyT.drop cutStmt) envT).wrap doneF (fun e => ((leavQ envT e).bind fun _ => (.raise e : Sem Flow)).wrap doneF .raise id id) id id, codeT, cutPos, [topFrame P0]⟩
abbrev stQ (w : World) : SharedT → Thread → Option (SharedT × Thread) := stepQ (denQ tabQ) R.prog w
def bootQ (w : World) (os : OsState) : Option SharedT := match putAll (boot_heap w.params).objs.toList .nil 0 with
  | some (t, n) => frNat n fun n => some (bootT w os (t, n))
  | none => none
/-- ahead of the first statement -/
def preQ (w : World) (os : OsState) : Option (SharedT × Thread) := match bootQ w os with
  | some s => goG (stQ w) 11 (bootAnn w) 12 s (topStub R.prog)
  | none => none
def preB (w : World) (os : OsState) : Option (Flow × SharedT × Code × Pos) := match preQ w os with
  | some y => segF (stQ w) 11 (bootAnn w) 9 y.1 thB
  | none => none
def firstQ (w : World) (os : OsState) : Option (Flow × SharedT × Code × Pos) := match preB w os with
  | some y => segF (stQ w) 11 (bootAnn w) 9500 y.2.1 thC
  | none => none
def restQ (w : World) (os : OsState) (f : Nat → Obj) (hf : Nat → Int) : Option SharedT := goF (stQ w) 11 (bootAnn w) 6500 (midS w os f hf) thD
/-! ### what is to be run -/
def Pl.fst : Pl → Bool
  | .g x => cutNames.contains x
  | .m C _ => cutNames.contains C
  | .p C _ => cutNames.contains C
def Fx.fst : Fx → Bool
  | .fa f => (match f with
    | .cls C => cutNames.contains C
    | .noat C _ => cutNames.contains C
    | .meth C _ => cutNames.contains C
    | .mkr C => cutNames.contains C
    | _ => false)
  | .prop C _ => cutNames.contains C
  | .tup _ _ => false
  | .crd C => cutNames.contains C
  | .cvl C _ _ => cutNames.contains C
  | .isi C _ _ => cutNames.contains C
  | .ety C _ => cutNames.contains C
  | .tyo C => cutNames.contains C
  | .tty _ => false
  | .sup C _ => cutNames.contains C
  | .neo C => cutNames.contains C
def obT (T : BT) (a : Nat) : Obj := (T.get a).getD default
def KK (o1 o2 : Nat → Obj) (hf : Nat → Int) : Frag := (3, mkD finD finEp hf) :: (as1.map (fun a => (a, o1 a)) ++ as2.map fun a => (a, o2 a))
def factsA (K : Frag) : Bool × List He.FnW := ((fx.all fun x => !x.fst || x.ok K) && (fn.all fun d => !d.at_.fst || d.ok K), fn.map fun d => if d.at_.fst = true then fnM K d.at_ else none)
def factsB (K : Frag) : Bool × List He.FnW := ((fx.all fun x => x.fst || x.ok K) && (fn.all fun d => d.at_.fst || d.ok K), fn.map fun d => if d.at_.fst = true then none else fnM K d.at_)
def wantA : Bool × List He.FnW := (true, fn.map fun d => if d.at_.fst = true then d.val else none)
def wantB : Bool × List He.FnW := (true, fn.map fun d => if d.at_.fst = true then none else d.val)
def live (o : Obj) : Bool := match o with
  | ⟨_, _, .freed, _⟩ => false
  | _ => true
theorem boot_n (w : World) : (boot_heap w.params).objs.size = 11 := by kernel_rfl
theorem run0 (w : World) (os : OsState) : (bootQ w os).map (fun s => (s.n, s.toks)) = some (11, boot_toks) := by kernel_rfl
theorem run1 (w : World) (os : OsState) : (preQ w os).map (fun y => y.2) = some thA := by kernel_rfl
theorem run2 (w : World) (os : OsState) : (preB w os).map (fun y => (y.1, y.2.2)) = some (.next, codeT, P0) := by kernel_rfl
theorem run3 (w : World) (os : OsState) (o2 : Nat → Obj) (hf : Nat → Int) : (firstQ w os).map (fun y => ((y.1, y.2.2), (y.2.1.n, y.2.1.life, y.2.1.gens, y.2.1.drawn, y.2.1.toks, y.2.1.os), (List.range 11).map (fun i => match Nat.beq i 3 with | true => default | false => obT y.2.1.tree i), seeD (obT y.2.1.tree 3), obT y.2.1.tree 12, obT y.2.1.tree 13, as1.all (fun a => live (obT y.2.1.tree a)), factsA (KK (obT y.2.1.tree) o2 hf))) =
    some ((.next, codeT, cutPos), (cutN, {}, #[], boot_drawn, cutToks, os), (List.range 11).map (fun i => match Nat.beq i 3 with | true => default | false => bootO w i), (.type "dict", none, cutEp, [], cutD), mkF cutF, codO, true, wantA) := by kernel_rfl
abbrev XtQ : Shared → Bool := fun s => xlAt qv [] s && recOk R.toRowW.records s
theorem run4 (w : World) (os : OsState) (f : Nat → Obj) (hf : Nat → Int) : (restQ w os f hf).map (fun s => (looksF R.prog (boot_heap w.params) s.abs, seenQ qv loose (importedModules R.prog.main.body) XtQ s.abs)) =
    some (true, openGood qv loose) := by kernel_rfl
theorem run5 (w : World) (os : OsState) (f : Nat → Obj) (hf hf2 : Nat → Int) : (restQ w os f hf).map (fun s => (seeD (obT s.tree 3), as1.map (fun a => s.tree.get a), s.n, as2.all (fun a => live (obT s.tree a)), factsB (KK (gMid w f hf) (obT s.tree) hf2))) =
    some ((.type "dict", none, finEp, [], finD), as1.map (fun a => some (gMid w f hf a)), finN, true, wantB) := by kernel_rfl
end K99
end
end
/-! part H5 -/
section
set_option maxHeartbeats 1000000
noncomputable section
namespace K99
open PySem PySem.Spec PyProof.Rows L2 PySem.W PySem.Calls HandSHeadRun
theorem left_cut {p q : Program} {loose : List Str} {Xt : Shared → Bool} {α : Type} {Yf : Shared → α} {Ya : World → α} {N M : Nat} (e : opening p = plainProg p.main.scope.names) (hN : Nat.ble 600 N = true) (f : ∀ s, fenceModules? p s = some s) (le : Nat.ble M N = true)
    (run : ∀ (w : World) (os : OsState), ∃ z : Shared, topRun treeTable p w (boot_heap w.params).objs.size (bootAnn w) M ⟨boot_heap w.params, #[], boot_drawn, boot_toks, os⟩ (topStub p) = some z ∧ looksF p (boot_heap w.params) z = true ∧ openSeen q loose (importedModules p.main.body) Xt true z = openGood q loose ∧ Yf z = Ya w) :
    LeftO p q loose Xt Yf Ya N true := by
  intro w
  obtain ⟨⟨h, gs, d, k, os⟩, x1, x2⟩ := Option.map_eq_some_iff.mp (boot_open e hN f w)
  have x3 : h = boot_heap w.params ∧ gs = Array.mk [] ∧ d = boot_drawn ∧ k = boot_toks := by simpa using x2
  obtain ⟨rfl, rfl, rfl, rfl⟩ := x3
  obtain ⟨z, hz, l1, l2, l3⟩ := run w os
  have le2 : M + (N - M) = N := by
    have := Nat.le_of_ble_eq_true le
    omega
  have r := topRun_mono (N - M) _ _ _ _ hz
  rw [le2] at r
  have l1' : (staticsOk (importedModules p.main.body) (boot_heap w.params) z.heap && namesBound p z.heap && gensDone z && laidKept (boot_heap w.params) z.heap) = true := l1
  have t : topFrom treeTable p w N ⟨boot_heap w.params, Array.mk [], boot_drawn, boot_toks, os⟩ = some z := by
    unfold topFrom
    dsimp only
    rw [boot_ns]
    show Option.bind (topRun treeTable p w (boot_heap w.params).objs.size (bootAnn w) N ⟨boot_heap w.params, #[], boot_drawn, boot_toks, os⟩ (topStub p)) _ = _
    rw [r]
    show (match staticsOk (importedModules p.main.body) (boot_heap w.params) z.heap && namesBound p z.heap && gensDone z && laidKept (boot_heap w.params) z.heap with
      | true => some z
      | false => none) = _
    rw [l1']
  unfold openEnds
  rw [x1]
  show Option.map _ (topFrom treeTable p w N _) = _
  rw [t]
  exact congrArg some (Prod.ext l2 l3)
/-! ### the twins -/
theorem stQ_eq (w : World) : stQ w = stepT (denote treeTable) R.prog w := by
  unfold stQ
  rw [stepQ_eq, denQ_eq, tabQ_eq]
theorem thA_eq : thA = ⟨denote treeTable codeT, codeT, P0, [topFrame P0]⟩ := by
  unfold thA
  rw [denQ_eq, tabQ_eq]
theorem thB_eq : thB = blockOf bodyT envT codeT P0 [topFrame P0] := by
  unfold thB blockOf
  rw [blockQ_eq]
theorem thC_eq : thC = piecesOf (bodyT.take cutStmt) envT codeT P0 [topFrame P0] := by
  unfold thC piecesOf
  rw [execsQ_eq]
theorem thD_eq : thD = restOf (bodyT.drop cutStmt) envT codeT cutPos [topFrame P0] := by
  unfold thD restOf leaveH
  rw [execsQ_eq, leavQ_eq]
/-! ### the state at the cut -/
theorem gMid_eq {w : World} {f : Nat → Obj} {hf : Nat → Int} (h3 : f 3 = mkD cutD cutEp hf) (h12 : f 12 = mkF cutF) (h13 : f 13 = codO)
    (hb : (List.range 11).map (fun i => match Nat.beq i 3 with | true => default | false => f i) = (List.range 11).map (fun i => match Nat.beq i 3 with | true => default | false => bootO w i)) : gMid w f hf = f := by
  funext i
  unfold gMid
  cases e3 : Nat.beq i 3 with
  | true =>
    obtain rfl := Nat.eq_of_beq_eq_true e3
    exact h3.symm
  | false =>
    cases e12 : Nat.beq i 12 with
    | true =>
      obtain rfl := Nat.eq_of_beq_eq_true e12
      exact h12.symm
    | false =>
      cases e13 : Nat.beq i 13 with
      | true =>
        obtain rfl := Nat.eq_of_beq_eq_true e13
        exact h13.symm
      | false =>
        cases e11 : Nat.blt i 11 with
        | true =>
          have z := List.map_inj_left.mp hb i (List.mem_range.mpr (Nat.le_of_ble_eq_true e11))
          simp only [e3] at z
          exact z.symm
        | false => rfl
theorem mid_abs {w : World} {os : OsState} {s : SharedT} {hf : Nat → Int} (hn : (s.n, s.life, s.gens, s.drawn, s.toks, s.os) = (cutN, {}, #[], boot_drawn, cutToks, os)) (hg : gMid w (obT s.tree) hf = obT s.tree) : (midS w os (obT s.tree) hf).abs = s.abs := by
  obtain ⟨T, n, life, gens, drawn, toks, os'⟩ := s
  simp only [Prod.mk.injEq] at hn
  obtain ⟨rfl, rfl, rfl, rfl, rfl, rfl⟩ := hn
  show (⟨absHeap (skT (gMid w (obT T) hf) 11 fun i => i) cutN {}, #[], boot_drawn, cutToks, os'⟩ : Shared) = ⟨absHeap T cutN {}, #[], boot_drawn, cutToks, os'⟩
  rw [absHeap_of (t' := T) fun i hi => ?_]
  rw [skT_get _ 11 _ i (by
    have : cutN < 2047 := Nat.lt_of_lt_of_eq (by decide) rfl
    omega), hg]
  rfl
theorem boot_abs {w : World} {os : OsState} {s : SharedT} (h : bootQ w os = some s) : s.abs = ⟨boot_heap w.params, #[], boot_drawn, boot_toks, os⟩ := by
  unfold bootQ at h
  cases e : putAll (boot_heap w.params).objs.toList .nil 0 with
  | none =>
    rw [e] at h
    cases h
  | some r =>
    obtain ⟨t, n⟩ := r
    rw [e] at h
    have h1 : (frNat n fun n => some (bootT w os (t, n))) = some s := h
    rw [frNat_eq] at h1
    obtain rfl := Option.some.inj h1
    show (⟨absHeap t n (boot_heap w.params).life, #[], boot_drawn, boot_toks, os⟩ : Shared) = _
    rw [putAll_heap e]
/-! ### the whole run -/
structure Ran (w : World) (os : OsState) (s3 s4 : SharedT) : Prop where
  run : topRun treeTable R.prog w (boot_heap w.params).objs.size (bootAnn w) (12 + (9 + (9500 + 6500))) ⟨boot_heap w.params, #[], boot_drawn, boot_toks, os⟩ (topStub R.prog) = some s4.abs
  looks : looksF R.prog (boot_heap w.params) s4.abs = true
  seen : seenQ qv loose (importedModules R.prog.main.body) XtQ s4.abs = openGood qv loose
  dict : seeD (obT s4.tree 3) = (.type "dict", none, finEp, [], finD)
  kept : as1.map (fun a => s4.tree.get a) = as1.map fun a => some (obT s3.tree a)
  n : s4.n = finN
  live1 : as1.all (fun a => live (obT s3.tree a)) = true
  live2 : as2.all (fun a => live (obT s4.tree a)) = true
  fa : factsA (KK (obT s3.tree) (obT s4.tree) (hfOf (obT s4.tree 3))) = wantA
  fb : factsB (KK (obT s3.tree) (obT s4.tree) (hfOf (obT s4.tree 3))) = wantB
theorem ran (w : World) (os : OsState) : ∃ s3 s4, Ran w os s3 s4 := by
  obtain ⟨s0, e0, _⟩ := Option.map_eq_some_iff.mp (run0 w os)
  obtain ⟨⟨s1, t1⟩, e1, e1t⟩ := Option.map_eq_some_iff.mp (run1 w os)
  obtain rfl : t1 = thA := e1t
  obtain ⟨⟨f2, s2, c2, p2⟩, e2, e2t⟩ := Option.map_eq_some_iff.mp (run2 w os)
  have e2u : (f2, c2, p2) = (.next, codeT, P0) := e2t
  simp only [Prod.mk.injEq] at e2u
  obtain ⟨rfl, rfl, rfl⟩ := e2u
  obtain ⟨⟨f3, s3, c3, p3⟩, e3, _⟩ := Option.map_eq_some_iff.mp (run3 w os (fun _ => default) fun _ => 0)
  have q3 : ∀ (o2 : Nat → Obj) (hf : Nat → Int), ((f3, c3, p3), (s3.n, s3.life, s3.gens, s3.drawn, s3.toks, s3.os), (List.range 11).map (fun i => match Nat.beq i 3 with | true => default | false => obT s3.tree i), seeD (obT s3.tree 3), obT s3.tree 12, obT s3.tree 13, as1.all (fun a => live (obT s3.tree a)), factsA (KK (obT s3.tree) o2 hf)) =
      ((.next, codeT, cutPos), (cutN, {}, #[], boot_drawn, cutToks, os), (List.range 11).map (fun i => match Nat.beq i 3 with | true => default | false => bootO w i), (.type "dict", none, cutEp, [], cutD), mkF cutF, codO, true, wantA) := by
    intro o2 hf
    have z := run3 w os o2 hf
    rw [e3] at z
    exact Option.some.inj z
  have q30 := q3 (fun _ => default) fun _ => 0
  obtain ⟨g1, q30⟩ := Prod.mk.inj q30
  obtain ⟨g2, q30⟩ := Prod.mk.inj q30
  obtain ⟨g3, q30⟩ := Prod.mk.inj q30
  obtain ⟨g4, q30⟩ := Prod.mk.inj q30
  obtain ⟨g5, q30⟩ := Prod.mk.inj q30
  obtain ⟨g6, q30⟩ := Prod.mk.inj q30
  obtain ⟨g7, _⟩ := Prod.mk.inj q30
  obtain ⟨y1, g1⟩ := Prod.mk.inj g1
  obtain ⟨y2, y3⟩ := Prod.mk.inj g1
  subst y1 y2 y3
  have h3 := mkD_of (by unfold cutD cutD0; exact fun h => nomatch h) g4
  have hg : gMid w (obT s3.tree) (hfOf (obT s3.tree 3)) = obT s3.tree := gMid_eq h3 g5 g6 g3
  obtain ⟨s4, e4, v4⟩ := Option.map_eq_some_iff.mp (run4 w os (obT s3.tree) (hfOf (obT s3.tree 3)))
  obtain ⟨k1, k2⟩ := Prod.mk.inj v4
  have q4 : ∀ hf2 : Nat → Int, (seeD (obT s4.tree 3), as1.map (fun a => s4.tree.get a), s4.n, as2.all (fun a => live (obT s4.tree a)), factsB (KK (gMid w (obT s3.tree) (hfOf (obT s3.tree 3))) (obT s4.tree) hf2)) =
      ((.type "dict", none, finEp, [], finD), as1.map (fun a => some (gMid w (obT s3.tree) (hfOf (obT s3.tree 3)) a)), finN, true, wantB) := by
    intro hf2
    have z := run5 w os (obT s3.tree) (hfOf (obT s3.tree 3)) hf2
    rw [e4] at z
    exact Option.some.inj z
  have q40 := q4 (hfOf (obT s4.tree 3))
  rw [hg] at q40
  obtain ⟨k3, q40⟩ := Prod.mk.inj q40
  obtain ⟨k4, q40⟩ := Prod.mk.inj q40
  obtain ⟨k5, q40⟩ := Prod.mk.inj q40
  obtain ⟨k6, k7⟩ := Prod.mk.inj q40
  refine ⟨s3, s4, ?_, k1, k2, k3, k4, k5, g7, k6, ?_, k7⟩
  · have ab := boot_abs e0
    have m1 : topGo treeTable R.prog w 11 (bootAnn w) 12 s0.abs (topStub R.prog) = some (s1.abs, thA) := by
      unfold preQ at e1
      rw [e0] at e1
      rw [stQ_eq] at e1
      exact goG_ok e1
    have m2 : segRun treeTable R.prog w 11 (bootAnn w) 1 9 s1.abs thB = some (.next, s2.abs, codeT, P0) := by
      unfold preB at e2
      rw [e1] at e2
      rw [stQ_eq] at e2
      exact segF_ok e2
    have m3 : segRun treeTable R.prog w 11 (bootAnn w) 1 9500 s2.abs thC = some (.next, s3.abs, codeT, cutPos) := by
      unfold firstQ at e3
      rw [e2] at e3
      rw [stQ_eq] at e3
      exact segF_ok e3
    have m4 : topRun treeTable R.prog w 11 (bootAnn w) 6500 s3.abs thD = some s4.abs := by
      unfold restQ at e4
      rw [stQ_eq] at e4
      have z := goF_ok e4
      rw [mid_abs g2 hg] at z
      exact z
    rw [boot_n, ← ab]
    rw [thA_eq] at m1
    rw [thB_eq] at m2
    rw [thC_eq] at m3
    rw [thD_eq] at m4
    have m5 := piece_app m3 m4
    rw [List.take_append_drop] at m5
    exact go_top m1 (piece_block m2 m5)
  · have z := q3 (obT s4.tree) (hfOf (obT s4.tree 3))
    exact (Prod.mk.inj (Prod.mk.inj (Prod.mk.inj (Prod.mk.inj (Prod.mk.inj (Prod.mk.inj (Prod.mk.inj z).2).2).2).2).2).2).2
/-! ### the parts are in the heap, and say what the walk wants -/
theorem live_ok {o : Obj} (h : live o = true) : alive o = some o := by
  obtain ⟨c, d, dt, sl⟩ := o
  cases dt <;> first | rfl | cases h
theorem at_heap {s : SharedT} {a : Nat} (hn : a < s.n) (h : live (obT s.tree a) = true) : s.abs.heap.get? a = some (obT s.tree a) := by
  rw [← getT_eq]
  unfold getT
  rw [show Nat.blt a s.n = true from Nat.ble_eq_true_of_le hn]
  have z := live_ok h
  unfold obT at z ⊢
  cases e : s.tree.get a with
  | none =>
    rw [e] at z
    exact z
  | some o =>
    rw [e] at z
    exact z
theorem as_lt : (as1 ++ as2).all (fun a => Nat.blt a finN) = true := by decide +kernel
theorem KK_in {w : World} {os : OsState} {s3 s4 : SharedT} (r : Ran w os s3 s4) : (KK (obT s3.tree) (obT s4.tree) (hfOf (obT s4.tree 3))).In s4.abs.heap := by
  intro a o e
  have lt : ∀ b, b ∈ as1 ++ as2 → b < s4.n := fun b hb => by
    rw [r.n]
    exact Nat.le_of_ble_eq_true (List.all_eq_true.mp as_lt b hb)
  have m : (a, o) ∈ KK (obT s3.tree) (obT s4.tree) (hfOf (obT s4.tree 3)) := by
    have := List.lookup_eq_some_iff.mp e
    obtain ⟨l1, l2, h, _⟩ := this
    rw [h]
    exact List.mem_append_right _ (List.mem_cons_self ..)
  unfold KK at m
  rcases List.mem_cons.mp m with m | m
  · obtain ⟨rfl, rfl⟩ := Prod.mk.inj m
    have h3 := mkD_of (by unfold finD finD0; exact fun h => nomatch h) r.dict
    rw [← h3]
    refine at_heap ?_ ?_
    · rw [r.n]
      exact Nat.lt_of_lt_of_eq (by decide) rfl
    · rw [h3]
      rfl
  · rcases List.mem_append.mp m with m | m
    · obtain ⟨b, hb, hm⟩ := List.mem_map.mp m
      obtain ⟨rfl, rfl⟩ := Prod.mk.inj hm
      have z := List.map_inj_left.mp r.kept b hb
      have z2 : obT s4.tree b = obT s3.tree b := by
        unfold obT at z ⊢
        rw [z]
        rfl
      have l := List.all_eq_true.mp r.live1 b hb
      rw [← z2] at l ⊢
      exact at_heap (lt b (List.mem_append_left _ hb)) l
    · obtain ⟨b, hb, hm⟩ := List.mem_map.mp m
      obtain ⟨rfl, rfl⟩ := Prod.mk.inj hm
      exact at_heap (lt b (List.mem_append_right _ hb)) (List.all_eq_true.mp r.live2 b hb)
theorem says_of {K : Frag} (ha : factsA K = wantA) (hb : factsB K = wantB) : obsM K = valM := by
  unfold factsA wantA at ha
  unfold factsB wantB at hb
  obtain ⟨a1, a2⟩ := Prod.mk.inj ha
  obtain ⟨b1, b2⟩ := Prod.mk.inj hb
  obtain ⟨a3, a4⟩ := Bool.and_eq_true_iff.mp a1
  obtain ⟨b3, b4⟩ := Bool.and_eq_true_iff.mp b1
  unfold obsM valM
  refine Prod.ext ?_ ?_
  · show (fx.all (fun f => f.ok K) && fn.all fun d => d.ok K) = true
    refine Bool.and_eq_true_iff.mpr ⟨List.all_eq_true.mpr fun x hx => ?_, List.all_eq_true.mpr fun x hx => ?_⟩
    · have p1 := List.all_eq_true.mp a3 x hx
      have p2 := List.all_eq_true.mp b3 x hx
      cases e : x.fst with
      | true => rw [e] at p1; exact p1
      | false => rw [e] at p2; exact p2
    · have p1 := List.all_eq_true.mp a4 x hx
      have p2 := List.all_eq_true.mp b4 x hx
      cases e : x.at_.fst with
      | true => rw [e] at p1; exact p1
      | false => rw [e] at p2; exact p2
  · show fn.map (fun d => fnM K d.at_) = fn.map DefM.val
    refine List.map_inj_left.mpr fun x hx => ?_
    have p1 := List.map_inj_left.mp a2 x hx
    have p2 := List.map_inj_left.mp b2 x hx
    cases e : x.at_.fst with
    | true =>
      rw [if_pos e, if_pos e] at p1
      exact p1
    | false =>
      have ne : ¬ x.at_.fst = true := by rw [e]; exact Bool.false_ne_true
      rw [if_neg ne, if_neg ne] at p2
      exact p2
def hkM : Hook where
  α := Prop
  obs := fun s => ∃ K : Frag, K.In s.heap ∧ obsM K = valM
  val := fun _ => True
  says := fun _ h => ∃ K : Frag, K.In h ∧ obsM K = valM
  of := fun _ _ e => of_eq_true e
  keeps := fun _ _ _ ⟨K, hK, c⟩ k => ⟨K, Frag.In.keeps hK k, c⟩
theorem leftM (e : opening R.prog = plainProg R.prog.main.scope.names) (f : ∀ s, fenceModules? R.prog s = some s) : LeftO R.prog qv loose XtQ hkM.obs hkM.val 17000 true :=
  left_cut (M := 12 + (9 + (9500 + 6500))) e (by decide) f (by decide) fun w os => by
    obtain ⟨s3, s4, r⟩ := ran w os
    refine ⟨s4.abs, r.run, r.looks, ?_, eq_true ⟨_, KK_in r, says_of r.fa r.fb⟩⟩
    rw [seenQ_eq]
    exact r.seen
end K99
end
end
/-! part H6 -/
section
set_option maxHeartbeats 0
noncomputable section
namespace K99
open PySem PySem.Spec PyProof.Rows L2 PySem.W PySem.Calls HandSHeadRun
abbrev rwL : OpenLaw := PySem.Challenge.rw_throughline_k99_whole_saved_text
theorem lawOf (z : rwL.row.wellSaid = true → rwL.row.Holds) : rwL.Holds := by
  w_on; o_law
  exact z (by assumption)
abbrev dL : DefRec := topDef R.prog 129
theorem look1 : opening R.prog = plainProg R.prog.main.scope.names := by kernel_rfl
theorem look2 (s : Shared) : fenceModules? R.prog s = some s := by kernel_rfl
theorem look3 : defOf qv R.name = some (dL, []) := by kernel_rfl
theorem look4 : R.prog.theDef R.name = some (dL.params, dL.body, dL.scope) := by kernel_rfl
theorem look5 : kwWritten? dL.params.kwonlyargs dL.params.kw_defaults = some [] := by kernel_rfl
theorem look6 : (!R.writes || R.records.isEmpty) = true := by kernel_rfl
theorem look7 : (chainsOk qv && opensWell R.prog && (frees R.toRowW && R.within.isEmpty)) = true := by kernel_rfl
theorem look8 : dL.name = ("law" : Str) := by kernel_rfl
theorem look9 : dL.params.defaults = [] := by kernel_rfl
theorem bareL : R.prog.bare := ⟨by kernel_rfl, by kernel_rfl, by kernel_rfl, by kernel_rfl, by kernel_rfl, by decide +kernel⟩
end K99
end
end
/-! part B1 -/
section
namespace K99
open PySem PySem.Spec PyProof.Rows L2 ClX
structure RPiece where
  start : V
  data : V
  syn : V
  fin : V
  reset : V
  ack : V
  window : V
  ranges : V
  marked : V
  cut : V
  stamp : V
namespace RPiece
def fs (r : RPiece) : List (Str × V) := [("start", r.start), ("data", r.data), ("syn", r.syn), ("fin", r.fin), ("reset", r.reset), ("ack", r.ack), ("window", r.window), ("ranges", r.ranges), ("marked", r.marked), ("cut", r.cut), ("stamp", r.stamp)]
theorem len (r : RPiece) : (fs r).length < 1000 := by show 11 < 1000; decide
theorem l_start (r : RPiece) : (fs r).lookup ("start" : Str) = some r.start := by kernel_rfl
theorem p_start (y : V) (r : RPiece) : putF "start" y (fs r) = fs { r with start := y } := by kernel_rfl
theorem l_data (r : RPiece) : (fs r).lookup ("data" : Str) = some r.data := by kernel_rfl
theorem p_data (y : V) (r : RPiece) : putF "data" y (fs r) = fs { r with data := y } := by kernel_rfl
theorem l_syn (r : RPiece) : (fs r).lookup ("syn" : Str) = some r.syn := by kernel_rfl
theorem p_syn (y : V) (r : RPiece) : putF "syn" y (fs r) = fs { r with syn := y } := by kernel_rfl
theorem l_fin (r : RPiece) : (fs r).lookup ("fin" : Str) = some r.fin := by kernel_rfl
theorem p_fin (y : V) (r : RPiece) : putF "fin" y (fs r) = fs { r with fin := y } := by kernel_rfl
theorem l_reset (r : RPiece) : (fs r).lookup ("reset" : Str) = some r.reset := by kernel_rfl
theorem p_reset (y : V) (r : RPiece) : putF "reset" y (fs r) = fs { r with reset := y } := by kernel_rfl
theorem l_ack (r : RPiece) : (fs r).lookup ("ack" : Str) = some r.ack := by kernel_rfl
theorem p_ack (y : V) (r : RPiece) : putF "ack" y (fs r) = fs { r with ack := y } := by kernel_rfl
theorem l_window (r : RPiece) : (fs r).lookup ("window" : Str) = some r.window := by kernel_rfl
theorem p_window (y : V) (r : RPiece) : putF "window" y (fs r) = fs { r with window := y } := by kernel_rfl
theorem l_ranges (r : RPiece) : (fs r).lookup ("ranges" : Str) = some r.ranges := by kernel_rfl
theorem p_ranges (y : V) (r : RPiece) : putF "ranges" y (fs r) = fs { r with ranges := y } := by kernel_rfl
theorem l_marked (r : RPiece) : (fs r).lookup ("marked" : Str) = some r.marked := by kernel_rfl
theorem p_marked (y : V) (r : RPiece) : putF "marked" y (fs r) = fs { r with marked := y } := by kernel_rfl
theorem l_cut (r : RPiece) : (fs r).lookup ("cut" : Str) = some r.cut := by kernel_rfl
theorem p_cut (y : V) (r : RPiece) : putF "cut" y (fs r) = fs { r with cut := y } := by kernel_rfl
theorem l_stamp (r : RPiece) : (fs r).lookup ("stamp" : Str) = some r.stamp := by kernel_rfl
theorem p_stamp (y : V) (r : RPiece) : putF "stamp" y (fs r) = fs { r with stamp := y } := by kernel_rfl
end RPiece
structure RCubic where
  cwnd : V
  thresh : V
  peak : V
  prior : V
  calm : V
  period : V
namespace RCubic
def fs (r : RCubic) : List (Str × V) := [("cwnd", r.cwnd), ("thresh", r.thresh), ("peak", r.peak), ("prior", r.prior), ("calm", r.calm), ("period", r.period)]
theorem len (r : RCubic) : (fs r).length < 1000 := by show 6 < 1000; decide
theorem l_cwnd (r : RCubic) : (fs r).lookup ("cwnd" : Str) = some r.cwnd := by kernel_rfl
theorem p_cwnd (y : V) (r : RCubic) : putF "cwnd" y (fs r) = fs { r with cwnd := y } := by kernel_rfl
theorem l_thresh (r : RCubic) : (fs r).lookup ("thresh" : Str) = some r.thresh := by kernel_rfl
theorem p_thresh (y : V) (r : RCubic) : putF "thresh" y (fs r) = fs { r with thresh := y } := by kernel_rfl
theorem l_peak (r : RCubic) : (fs r).lookup ("peak" : Str) = some r.peak := by kernel_rfl
theorem p_peak (y : V) (r : RCubic) : putF "peak" y (fs r) = fs { r with peak := y } := by kernel_rfl
theorem l_prior (r : RCubic) : (fs r).lookup ("prior" : Str) = some r.prior := by kernel_rfl
theorem p_prior (y : V) (r : RCubic) : putF "prior" y (fs r) = fs { r with prior := y } := by kernel_rfl
theorem l_calm (r : RCubic) : (fs r).lookup ("calm" : Str) = some r.calm := by kernel_rfl
theorem p_calm (y : V) (r : RCubic) : putF "calm" y (fs r) = fs { r with calm := y } := by kernel_rfl
theorem l_period (r : RCubic) : (fs r).lookup ("period" : Str) = some r.period := by kernel_rfl
theorem p_period (y : V) (r : RCubic) : putF "period" y (fs r) = fs { r with period := y } := by kernel_rfl
end RCubic
structure RReno where
  cwnd : V
  thresh : V
  peak : V
  prior : V
  calm : V
  credit : V
namespace RReno
def fs (r : RReno) : List (Str × V) := [("cwnd", r.cwnd), ("thresh", r.thresh), ("peak", r.peak), ("prior", r.prior), ("calm", r.calm), ("credit", r.credit)]
theorem len (r : RReno) : (fs r).length < 1000 := by show 6 < 1000; decide
theorem l_cwnd (r : RReno) : (fs r).lookup ("cwnd" : Str) = some r.cwnd := by kernel_rfl
theorem p_cwnd (y : V) (r : RReno) : putF "cwnd" y (fs r) = fs { r with cwnd := y } := by kernel_rfl
theorem l_thresh (r : RReno) : (fs r).lookup ("thresh" : Str) = some r.thresh := by kernel_rfl
theorem p_thresh (y : V) (r : RReno) : putF "thresh" y (fs r) = fs { r with thresh := y } := by kernel_rfl
theorem l_peak (r : RReno) : (fs r).lookup ("peak" : Str) = some r.peak := by kernel_rfl
theorem p_peak (y : V) (r : RReno) : putF "peak" y (fs r) = fs { r with peak := y } := by kernel_rfl
theorem l_prior (r : RReno) : (fs r).lookup ("prior" : Str) = some r.prior := by kernel_rfl
theorem p_prior (y : V) (r : RReno) : putF "prior" y (fs r) = fs { r with prior := y } := by kernel_rfl
theorem l_calm (r : RReno) : (fs r).lookup ("calm" : Str) = some r.calm := by kernel_rfl
theorem p_calm (y : V) (r : RReno) : putF "calm" y (fs r) = fs { r with calm := y } := by kernel_rfl
theorem l_credit (r : RReno) : (fs r).lookup ("credit" : Str) = some r.credit := by kernel_rfl
theorem p_credit (y : V) (r : RReno) : putF "credit" y (fs r) = fs { r with credit := y } := by kernel_rfl
end RReno
structure RRoundTrip where
  least : V
  most : V
  srtt : V
  variance : V
  measured : V
  rto : V
namespace RRoundTrip
def fs (r : RRoundTrip) : List (Str × V) := [("least", r.least), ("most", r.most), ("srtt", r.srtt), ("variance", r.variance), ("measured", r.measured), ("rto", r.rto)]
theorem len (r : RRoundTrip) : (fs r).length < 1000 := by show 6 < 1000; decide
theorem l_least (r : RRoundTrip) : (fs r).lookup ("least" : Str) = some r.least := by kernel_rfl
theorem p_least (y : V) (r : RRoundTrip) : putF "least" y (fs r) = fs { r with least := y } := by kernel_rfl
theorem l_most (r : RRoundTrip) : (fs r).lookup ("most" : Str) = some r.most := by kernel_rfl
theorem p_most (y : V) (r : RRoundTrip) : putF "most" y (fs r) = fs { r with most := y } := by kernel_rfl
theorem l_srtt (r : RRoundTrip) : (fs r).lookup ("srtt" : Str) = some r.srtt := by kernel_rfl
theorem p_srtt (y : V) (r : RRoundTrip) : putF "srtt" y (fs r) = fs { r with srtt := y } := by kernel_rfl
theorem l_variance (r : RRoundTrip) : (fs r).lookup ("variance" : Str) = some r.variance := by kernel_rfl
theorem p_variance (y : V) (r : RRoundTrip) : putF "variance" y (fs r) = fs { r with variance := y } := by kernel_rfl
theorem l_measured (r : RRoundTrip) : (fs r).lookup ("measured" : Str) = some r.measured := by kernel_rfl
theorem p_measured (y : V) (r : RRoundTrip) : putF "measured" y (fs r) = fs { r with measured := y } := by kernel_rfl
theorem l_rto (r : RRoundTrip) : (fs r).lookup ("rto" : Str) = some r.rto := by kernel_rfl
theorem p_rto (y : V) (r : RRoundTrip) : putF "rto" y (fs r) = fs { r with rto := y } := by kernel_rfl
end RRoundTrip
structure RReceiver where
  room : V
  nxt : V
  edge : V
  end_ : V
  recent : V
  ready : V
  held : V
namespace RReceiver
def fs (r : RReceiver) : List (Str × V) := [("room", r.room), ("nxt", r.nxt), ("edge", r.edge), ("end", r.end_), ("recent", r.recent), ("_ready", r.ready), ("_held", r.held)]
theorem len (r : RReceiver) : (fs r).length < 1000 := by show 7 < 1000; decide
theorem l_room (r : RReceiver) : (fs r).lookup ("room" : Str) = some r.room := by kernel_rfl
theorem p_room (y : V) (r : RReceiver) : putF "room" y (fs r) = fs { r with room := y } := by kernel_rfl
theorem l_nxt (r : RReceiver) : (fs r).lookup ("nxt" : Str) = some r.nxt := by kernel_rfl
theorem p_nxt (y : V) (r : RReceiver) : putF "nxt" y (fs r) = fs { r with nxt := y } := by kernel_rfl
theorem l_edge (r : RReceiver) : (fs r).lookup ("edge" : Str) = some r.edge := by kernel_rfl
theorem p_edge (y : V) (r : RReceiver) : putF "edge" y (fs r) = fs { r with edge := y } := by kernel_rfl
theorem l_end_ (r : RReceiver) : (fs r).lookup ("end" : Str) = some r.end_ := by kernel_rfl
theorem p_end_ (y : V) (r : RReceiver) : putF "end" y (fs r) = fs { r with end_ := y } := by kernel_rfl
theorem l_recent (r : RReceiver) : (fs r).lookup ("recent" : Str) = some r.recent := by kernel_rfl
theorem p_recent (y : V) (r : RReceiver) : putF "recent" y (fs r) = fs { r with recent := y } := by kernel_rfl
theorem l_ready (r : RReceiver) : (fs r).lookup ("_ready" : Str) = some r.ready := by kernel_rfl
theorem p_ready (y : V) (r : RReceiver) : putF "_ready" y (fs r) = fs { r with ready := y } := by kernel_rfl
theorem l_held (r : RReceiver) : (fs r).lookup ("_held" : Str) = some r.held := by kernel_rfl
theorem p_held (y : V) (r : RReceiver) : putF "_held" y (fs r) = fs { r with held := y } := by kernel_rfl
end RReceiver
structure RSender where
  room : V
  una : V
  nxt : V
  written : V
  finished : V
  edge : V
  recovery : V
  resend : V
  lost : V
  repeated : V
  queue : V
  sacked : V
namespace RSender
def fs (r : RSender) : List (Str × V) := [("room", r.room), ("una", r.una), ("nxt", r.nxt), ("written", r.written), ("finished", r.finished), ("edge", r.edge), ("recovery", r.recovery), ("resend", r.resend), ("lost", r.lost), ("repeated", r.repeated), ("_queue", r.queue), ("_sacked", r.sacked)]
theorem len (r : RSender) : (fs r).length < 1000 := by show 12 < 1000; decide
theorem l_room (r : RSender) : (fs r).lookup ("room" : Str) = some r.room := by kernel_rfl
theorem p_room (y : V) (r : RSender) : putF "room" y (fs r) = fs { r with room := y } := by kernel_rfl
theorem l_una (r : RSender) : (fs r).lookup ("una" : Str) = some r.una := by kernel_rfl
theorem p_una (y : V) (r : RSender) : putF "una" y (fs r) = fs { r with una := y } := by kernel_rfl
theorem l_nxt (r : RSender) : (fs r).lookup ("nxt" : Str) = some r.nxt := by kernel_rfl
theorem p_nxt (y : V) (r : RSender) : putF "nxt" y (fs r) = fs { r with nxt := y } := by kernel_rfl
theorem l_written (r : RSender) : (fs r).lookup ("written" : Str) = some r.written := by kernel_rfl
theorem p_written (y : V) (r : RSender) : putF "written" y (fs r) = fs { r with written := y } := by kernel_rfl
theorem l_finished (r : RSender) : (fs r).lookup ("finished" : Str) = some r.finished := by kernel_rfl
theorem p_finished (y : V) (r : RSender) : putF "finished" y (fs r) = fs { r with finished := y } := by kernel_rfl
theorem l_edge (r : RSender) : (fs r).lookup ("edge" : Str) = some r.edge := by kernel_rfl
theorem p_edge (y : V) (r : RSender) : putF "edge" y (fs r) = fs { r with edge := y } := by kernel_rfl
theorem l_recovery (r : RSender) : (fs r).lookup ("recovery" : Str) = some r.recovery := by kernel_rfl
theorem p_recovery (y : V) (r : RSender) : putF "recovery" y (fs r) = fs { r with recovery := y } := by kernel_rfl
theorem l_resend (r : RSender) : (fs r).lookup ("resend" : Str) = some r.resend := by kernel_rfl
theorem p_resend (y : V) (r : RSender) : putF "resend" y (fs r) = fs { r with resend := y } := by kernel_rfl
theorem l_lost (r : RSender) : (fs r).lookup ("lost" : Str) = some r.lost := by kernel_rfl
theorem p_lost (y : V) (r : RSender) : putF "lost" y (fs r) = fs { r with lost := y } := by kernel_rfl
theorem l_repeated (r : RSender) : (fs r).lookup ("repeated" : Str) = some r.repeated := by kernel_rfl
theorem p_repeated (y : V) (r : RSender) : putF "repeated" y (fs r) = fs { r with repeated := y } := by kernel_rfl
theorem l_queue (r : RSender) : (fs r).lookup ("_queue" : Str) = some r.queue := by kernel_rfl
theorem p_queue (y : V) (r : RSender) : putF "_queue" y (fs r) = fs { r with queue := y } := by kernel_rfl
theorem l_sacked (r : RSender) : (fs r).lookup ("_sacked" : Str) = some r.sacked := by kernel_rfl
theorem p_sacked (y : V) (r : RSender) : putF "_sacked" y (fs r) = fs { r with sacked := y } := by kernel_rfl
end RSender
structure REndpoint where
  options : V
  sender : V
  receiver : V
  trip : V
  control : V
  phase : V
  cause : V
  mss : V
  selective : V
  alarm : V
  since : V
  ack_at : V
  late : V
  asked : V
  again : V
  probe : V
  over : V
  rest : V
  spent_at : V
  spent : V
  stamp : V
  marked : V
  cut : V
namespace REndpoint
def fs (r : REndpoint) : List (Str × V) := [("options", r.options), ("sender", r.sender), ("receiver", r.receiver), ("trip", r.trip), ("control", r.control), ("phase", r.phase), ("cause", r.cause), ("mss", r.mss), ("selective", r.selective), ("alarm", r.alarm), ("since", r.since), ("ack_at", r.ack_at), ("late", r.late), ("asked", r.asked), ("again", r.again), ("probe", r.probe), ("over", r.over), ("rest", r.rest), ("spent_at", r.spent_at), ("spent", r.spent), ("stamp", r.stamp), ("marked", r.marked), ("cut", r.cut)]
theorem len (r : REndpoint) : (fs r).length < 1000 := by show 23 < 1000; decide
theorem l_options (r : REndpoint) : (fs r).lookup ("options" : Str) = some r.options := by kernel_rfl
theorem p_options (y : V) (r : REndpoint) : putF "options" y (fs r) = fs { r with options := y } := by kernel_rfl
theorem l_sender (r : REndpoint) : (fs r).lookup ("sender" : Str) = some r.sender := by kernel_rfl
theorem p_sender (y : V) (r : REndpoint) : putF "sender" y (fs r) = fs { r with sender := y } := by kernel_rfl
theorem l_receiver (r : REndpoint) : (fs r).lookup ("receiver" : Str) = some r.receiver := by kernel_rfl
theorem p_receiver (y : V) (r : REndpoint) : putF "receiver" y (fs r) = fs { r with receiver := y } := by kernel_rfl
theorem l_trip (r : REndpoint) : (fs r).lookup ("trip" : Str) = some r.trip := by kernel_rfl
theorem p_trip (y : V) (r : REndpoint) : putF "trip" y (fs r) = fs { r with trip := y } := by kernel_rfl
theorem l_control (r : REndpoint) : (fs r).lookup ("control" : Str) = some r.control := by kernel_rfl
theorem p_control (y : V) (r : REndpoint) : putF "control" y (fs r) = fs { r with control := y } := by kernel_rfl
theorem l_phase (r : REndpoint) : (fs r).lookup ("phase" : Str) = some r.phase := by kernel_rfl
theorem p_phase (y : V) (r : REndpoint) : putF "phase" y (fs r) = fs { r with phase := y } := by kernel_rfl
theorem l_cause (r : REndpoint) : (fs r).lookup ("cause" : Str) = some r.cause := by kernel_rfl
theorem p_cause (y : V) (r : REndpoint) : putF "cause" y (fs r) = fs { r with cause := y } := by kernel_rfl
theorem l_mss (r : REndpoint) : (fs r).lookup ("mss" : Str) = some r.mss := by kernel_rfl
theorem p_mss (y : V) (r : REndpoint) : putF "mss" y (fs r) = fs { r with mss := y } := by kernel_rfl
theorem l_selective (r : REndpoint) : (fs r).lookup ("selective" : Str) = some r.selective := by kernel_rfl
theorem p_selective (y : V) (r : REndpoint) : putF "selective" y (fs r) = fs { r with selective := y } := by kernel_rfl
theorem l_alarm (r : REndpoint) : (fs r).lookup ("alarm" : Str) = some r.alarm := by kernel_rfl
theorem p_alarm (y : V) (r : REndpoint) : putF "alarm" y (fs r) = fs { r with alarm := y } := by kernel_rfl
theorem l_since (r : REndpoint) : (fs r).lookup ("since" : Str) = some r.since := by kernel_rfl
theorem p_since (y : V) (r : REndpoint) : putF "since" y (fs r) = fs { r with since := y } := by kernel_rfl
theorem l_ack_at (r : REndpoint) : (fs r).lookup ("ack_at" : Str) = some r.ack_at := by kernel_rfl
theorem p_ack_at (y : V) (r : REndpoint) : putF "ack_at" y (fs r) = fs { r with ack_at := y } := by kernel_rfl
theorem l_late (r : REndpoint) : (fs r).lookup ("late" : Str) = some r.late := by kernel_rfl
theorem p_late (y : V) (r : REndpoint) : putF "late" y (fs r) = fs { r with late := y } := by kernel_rfl
theorem l_asked (r : REndpoint) : (fs r).lookup ("asked" : Str) = some r.asked := by kernel_rfl
theorem p_asked (y : V) (r : REndpoint) : putF "asked" y (fs r) = fs { r with asked := y } := by kernel_rfl
theorem l_again (r : REndpoint) : (fs r).lookup ("again" : Str) = some r.again := by kernel_rfl
theorem p_again (y : V) (r : REndpoint) : putF "again" y (fs r) = fs { r with again := y } := by kernel_rfl
theorem l_probe (r : REndpoint) : (fs r).lookup ("probe" : Str) = some r.probe := by kernel_rfl
theorem p_probe (y : V) (r : REndpoint) : putF "probe" y (fs r) = fs { r with probe := y } := by kernel_rfl
theorem l_over (r : REndpoint) : (fs r).lookup ("over" : Str) = some r.over := by kernel_rfl
theorem p_over (y : V) (r : REndpoint) : putF "over" y (fs r) = fs { r with over := y } := by kernel_rfl
theorem l_rest (r : REndpoint) : (fs r).lookup ("rest" : Str) = some r.rest := by kernel_rfl
theorem p_rest (y : V) (r : REndpoint) : putF "rest" y (fs r) = fs { r with rest := y } := by kernel_rfl
theorem l_spent_at (r : REndpoint) : (fs r).lookup ("spent_at" : Str) = some r.spent_at := by kernel_rfl
theorem p_spent_at (y : V) (r : REndpoint) : putF "spent_at" y (fs r) = fs { r with spent_at := y } := by kernel_rfl
theorem l_spent (r : REndpoint) : (fs r).lookup ("spent" : Str) = some r.spent := by kernel_rfl
theorem p_spent (y : V) (r : REndpoint) : putF "spent" y (fs r) = fs { r with spent := y } := by kernel_rfl
theorem l_stamp (r : REndpoint) : (fs r).lookup ("stamp" : Str) = some r.stamp := by kernel_rfl
theorem p_stamp (y : V) (r : REndpoint) : putF "stamp" y (fs r) = fs { r with stamp := y } := by kernel_rfl
theorem l_marked (r : REndpoint) : (fs r).lookup ("marked" : Str) = some r.marked := by kernel_rfl
theorem p_marked (y : V) (r : REndpoint) : putF "marked" y (fs r) = fs { r with marked := y } := by kernel_rfl
theorem l_cut (r : REndpoint) : (fs r).lookup ("cut" : Str) = some r.cut := by kernel_rfl
theorem p_cut (y : V) (r : REndpoint) : putF "cut" y (fs r) = fs { r with cut := y } := by kernel_rfl
end REndpoint
structure RCodeReader where
  numbers : V
  line : V
  at_ : V
namespace RCodeReader
def fs (r : RCodeReader) : List (Str × V) := [("numbers", r.numbers), ("line", r.line), ("at", r.at_)]
theorem len (r : RCodeReader) : (fs r).length < 1000 := by show 3 < 1000; decide
theorem l_numbers (r : RCodeReader) : (fs r).lookup ("numbers" : Str) = some r.numbers := by kernel_rfl
theorem p_numbers (y : V) (r : RCodeReader) : putF "numbers" y (fs r) = fs { r with numbers := y } := by kernel_rfl
theorem l_line (r : RCodeReader) : (fs r).lookup ("line" : Str) = some r.line := by kernel_rfl
theorem p_line (y : V) (r : RCodeReader) : putF "line" y (fs r) = fs { r with line := y } := by kernel_rfl
theorem l_at_ (r : RCodeReader) : (fs r).lookup ("at" : Str) = some r.at_ := by kernel_rfl
theorem p_at_ (y : V) (r : RCodeReader) : putF "at" y (fs r) = fs { r with at_ := y } := by kernel_rfl
end RCodeReader
structure RPacket where
  sender : V
  target : V
  octets : V
  marked : V
namespace RPacket
def fs (r : RPacket) : List (Str × V) := [("sender", r.sender), ("target", r.target), ("octets", r.octets), ("marked", r.marked)]
theorem len (r : RPacket) : (fs r).length < 1000 := by show 4 < 1000; decide
theorem l_sender (r : RPacket) : (fs r).lookup ("sender" : Str) = some r.sender := by kernel_rfl
theorem p_sender (y : V) (r : RPacket) : putF "sender" y (fs r) = fs { r with sender := y } := by kernel_rfl
theorem l_target (r : RPacket) : (fs r).lookup ("target" : Str) = some r.target := by kernel_rfl
theorem p_target (y : V) (r : RPacket) : putF "target" y (fs r) = fs { r with target := y } := by kernel_rfl
theorem l_octets (r : RPacket) : (fs r).lookup ("octets" : Str) = some r.octets := by kernel_rfl
theorem p_octets (y : V) (r : RPacket) : putF "octets" y (fs r) = fs { r with octets := y } := by kernel_rfl
theorem l_marked (r : RPacket) : (fs r).lookup ("marked" : Str) = some r.marked := by kernel_rfl
theorem p_marked (y : V) (r : RPacket) : putF "marked" y (fs r) = fs { r with marked := y } := by kernel_rfl
end RPacket
structure RSegment where
  source : V
  target : V
  seq : V
  count_ : V
  echo : V
  ack : V
  syn : V
  fin : V
  reset : V
  marked : V
  cut : V
  window : V
  mss : V
  scale : V
  ranges_known : V
  ranges : V
  stamp : V
  data : V
namespace RSegment
def fs (r : RSegment) : List (Str × V) := [("source", r.source), ("target", r.target), ("seq", r.seq), ("count", r.count_), ("echo", r.echo), ("ack", r.ack), ("syn", r.syn), ("fin", r.fin), ("reset", r.reset), ("marked", r.marked), ("cut", r.cut), ("window", r.window), ("mss", r.mss), ("scale", r.scale), ("ranges_known", r.ranges_known), ("ranges", r.ranges), ("stamp", r.stamp), ("data", r.data)]
theorem len (r : RSegment) : (fs r).length < 1000 := by show 18 < 1000; decide
theorem l_source (r : RSegment) : (fs r).lookup ("source" : Str) = some r.source := by kernel_rfl
theorem p_source (y : V) (r : RSegment) : putF "source" y (fs r) = fs { r with source := y } := by kernel_rfl
theorem l_target (r : RSegment) : (fs r).lookup ("target" : Str) = some r.target := by kernel_rfl
theorem p_target (y : V) (r : RSegment) : putF "target" y (fs r) = fs { r with target := y } := by kernel_rfl
theorem l_seq (r : RSegment) : (fs r).lookup ("seq" : Str) = some r.seq := by kernel_rfl
theorem p_seq (y : V) (r : RSegment) : putF "seq" y (fs r) = fs { r with seq := y } := by kernel_rfl
theorem l_count_ (r : RSegment) : (fs r).lookup ("count" : Str) = some r.count_ := by kernel_rfl
theorem p_count_ (y : V) (r : RSegment) : putF "count" y (fs r) = fs { r with count_ := y } := by kernel_rfl
theorem l_echo (r : RSegment) : (fs r).lookup ("echo" : Str) = some r.echo := by kernel_rfl
theorem p_echo (y : V) (r : RSegment) : putF "echo" y (fs r) = fs { r with echo := y } := by kernel_rfl
theorem l_ack (r : RSegment) : (fs r).lookup ("ack" : Str) = some r.ack := by kernel_rfl
theorem p_ack (y : V) (r : RSegment) : putF "ack" y (fs r) = fs { r with ack := y } := by kernel_rfl
theorem l_syn (r : RSegment) : (fs r).lookup ("syn" : Str) = some r.syn := by kernel_rfl
theorem p_syn (y : V) (r : RSegment) : putF "syn" y (fs r) = fs { r with syn := y } := by kernel_rfl
theorem l_fin (r : RSegment) : (fs r).lookup ("fin" : Str) = some r.fin := by kernel_rfl
theorem p_fin (y : V) (r : RSegment) : putF "fin" y (fs r) = fs { r with fin := y } := by kernel_rfl
theorem l_reset (r : RSegment) : (fs r).lookup ("reset" : Str) = some r.reset := by kernel_rfl
theorem p_reset (y : V) (r : RSegment) : putF "reset" y (fs r) = fs { r with reset := y } := by kernel_rfl
theorem l_marked (r : RSegment) : (fs r).lookup ("marked" : Str) = some r.marked := by kernel_rfl
theorem p_marked (y : V) (r : RSegment) : putF "marked" y (fs r) = fs { r with marked := y } := by kernel_rfl
theorem l_cut (r : RSegment) : (fs r).lookup ("cut" : Str) = some r.cut := by kernel_rfl
theorem p_cut (y : V) (r : RSegment) : putF "cut" y (fs r) = fs { r with cut := y } := by kernel_rfl
theorem l_window (r : RSegment) : (fs r).lookup ("window" : Str) = some r.window := by kernel_rfl
theorem p_window (y : V) (r : RSegment) : putF "window" y (fs r) = fs { r with window := y } := by kernel_rfl
theorem l_mss (r : RSegment) : (fs r).lookup ("mss" : Str) = some r.mss := by kernel_rfl
theorem p_mss (y : V) (r : RSegment) : putF "mss" y (fs r) = fs { r with mss := y } := by kernel_rfl
theorem l_scale (r : RSegment) : (fs r).lookup ("scale" : Str) = some r.scale := by kernel_rfl
theorem p_scale (y : V) (r : RSegment) : putF "scale" y (fs r) = fs { r with scale := y } := by kernel_rfl
theorem l_ranges_known (r : RSegment) : (fs r).lookup ("ranges_known" : Str) = some r.ranges_known := by kernel_rfl
theorem p_ranges_known (y : V) (r : RSegment) : putF "ranges_known" y (fs r) = fs { r with ranges_known := y } := by kernel_rfl
theorem l_ranges (r : RSegment) : (fs r).lookup ("ranges" : Str) = some r.ranges := by kernel_rfl
theorem p_ranges (y : V) (r : RSegment) : putF "ranges" y (fs r) = fs { r with ranges := y } := by kernel_rfl
theorem l_stamp (r : RSegment) : (fs r).lookup ("stamp" : Str) = some r.stamp := by kernel_rfl
theorem p_stamp (y : V) (r : RSegment) : putF "stamp" y (fs r) = fs { r with stamp := y } := by kernel_rfl
theorem l_data (r : RSegment) : (fs r).lookup ("data" : Str) = some r.data := by kernel_rfl
theorem p_data (y : V) (r : RSegment) : putF "data" y (fs r) = fs { r with data := y } := by kernel_rfl
end RSegment
structure RSocket where
  count_ : V
  port : V
  peer : V
  peer_port : V
  peer_count : V
  peer_first : V
  peer_shift : V
  listened : V
  accepted : V
  endpoint : V
namespace RSocket
def fs (r : RSocket) : List (Str × V) := [("count", r.count_), ("port", r.port), ("peer", r.peer), ("peer_port", r.peer_port), ("peer_count", r.peer_count), ("peer_first", r.peer_first), ("peer_shift", r.peer_shift), ("listened", r.listened), ("accepted", r.accepted), ("endpoint", r.endpoint)]
theorem len (r : RSocket) : (fs r).length < 1000 := by show 10 < 1000; decide
theorem l_count_ (r : RSocket) : (fs r).lookup ("count" : Str) = some r.count_ := by kernel_rfl
theorem p_count_ (y : V) (r : RSocket) : putF "count" y (fs r) = fs { r with count_ := y } := by kernel_rfl
theorem l_port (r : RSocket) : (fs r).lookup ("port" : Str) = some r.port := by kernel_rfl
theorem p_port (y : V) (r : RSocket) : putF "port" y (fs r) = fs { r with port := y } := by kernel_rfl
theorem l_peer (r : RSocket) : (fs r).lookup ("peer" : Str) = some r.peer := by kernel_rfl
theorem p_peer (y : V) (r : RSocket) : putF "peer" y (fs r) = fs { r with peer := y } := by kernel_rfl
theorem l_peer_port (r : RSocket) : (fs r).lookup ("peer_port" : Str) = some r.peer_port := by kernel_rfl
theorem p_peer_port (y : V) (r : RSocket) : putF "peer_port" y (fs r) = fs { r with peer_port := y } := by kernel_rfl
theorem l_peer_count (r : RSocket) : (fs r).lookup ("peer_count" : Str) = some r.peer_count := by kernel_rfl
theorem p_peer_count (y : V) (r : RSocket) : putF "peer_count" y (fs r) = fs { r with peer_count := y } := by kernel_rfl
theorem l_peer_first (r : RSocket) : (fs r).lookup ("peer_first" : Str) = some r.peer_first := by kernel_rfl
theorem p_peer_first (y : V) (r : RSocket) : putF "peer_first" y (fs r) = fs { r with peer_first := y } := by kernel_rfl
theorem l_peer_shift (r : RSocket) : (fs r).lookup ("peer_shift" : Str) = some r.peer_shift := by kernel_rfl
theorem p_peer_shift (y : V) (r : RSocket) : putF "peer_shift" y (fs r) = fs { r with peer_shift := y } := by kernel_rfl
theorem l_listened (r : RSocket) : (fs r).lookup ("listened" : Str) = some r.listened := by kernel_rfl
theorem p_listened (y : V) (r : RSocket) : putF "listened" y (fs r) = fs { r with listened := y } := by kernel_rfl
theorem l_accepted (r : RSocket) : (fs r).lookup ("accepted" : Str) = some r.accepted := by kernel_rfl
theorem p_accepted (y : V) (r : RSocket) : putF "accepted" y (fs r) = fs { r with accepted := y } := by kernel_rfl
theorem l_endpoint (r : RSocket) : (fs r).lookup ("endpoint" : Str) = some r.endpoint := by kernel_rfl
theorem p_endpoint (y : V) (r : RSocket) : putF "endpoint" y (fs r) = fs { r with endpoint := y } := by kernel_rfl
end RSocket
structure RHost where
  address : V
  options : V
  counter : V
  now : V
  listeners : V
  sockets : V
  packets : V
namespace RHost
def fs (r : RHost) : List (Str × V) := [("address", r.address), ("options", r.options), ("counter", r.counter), ("now", r.now), ("_listeners", r.listeners), ("_sockets", r.sockets), ("_packets", r.packets)]
theorem len (r : RHost) : (fs r).length < 1000 := by show 7 < 1000; decide
theorem l_address (r : RHost) : (fs r).lookup ("address" : Str) = some r.address := by kernel_rfl
theorem p_address (y : V) (r : RHost) : putF "address" y (fs r) = fs { r with address := y } := by kernel_rfl
theorem l_options (r : RHost) : (fs r).lookup ("options" : Str) = some r.options := by kernel_rfl
theorem p_options (y : V) (r : RHost) : putF "options" y (fs r) = fs { r with options := y } := by kernel_rfl
theorem l_counter (r : RHost) : (fs r).lookup ("counter" : Str) = some r.counter := by kernel_rfl
theorem p_counter (y : V) (r : RHost) : putF "counter" y (fs r) = fs { r with counter := y } := by kernel_rfl
theorem l_now (r : RHost) : (fs r).lookup ("now" : Str) = some r.now := by kernel_rfl
theorem p_now (y : V) (r : RHost) : putF "now" y (fs r) = fs { r with now := y } := by kernel_rfl
theorem l_listeners (r : RHost) : (fs r).lookup ("_listeners" : Str) = some r.listeners := by kernel_rfl
theorem p_listeners (y : V) (r : RHost) : putF "_listeners" y (fs r) = fs { r with listeners := y } := by kernel_rfl
theorem l_sockets (r : RHost) : (fs r).lookup ("_sockets" : Str) = some r.sockets := by kernel_rfl
theorem p_sockets (y : V) (r : RHost) : putF "_sockets" y (fs r) = fs { r with sockets := y } := by kernel_rfl
theorem l_packets (r : RHost) : (fs r).lookup ("_packets" : Str) = some r.packets := by kernel_rfl
theorem p_packets (y : V) (r : RHost) : putF "_packets" y (fs r) = fs { r with packets := y } := by kernel_rfl
end RHost
structure ROptions where
  mss : V
  room : V
  life : V
  pace : V
  tries : V
  min_rto : V
  max_rto : V
  ack_delay : V
  keep_alive : V
  nagle : V
  control : V
namespace ROptions
def fs (r : ROptions) : List (Str × V) := [("mss", r.mss), ("room", r.room), ("life", r.life), ("pace", r.pace), ("tries", r.tries), ("min_rto", r.min_rto), ("max_rto", r.max_rto), ("ack_delay", r.ack_delay), ("keep_alive", r.keep_alive), ("nagle", r.nagle), ("control", r.control)]
theorem len (r : ROptions) : (fs r).length < 1000 := by show 11 < 1000; decide
theorem l_mss (r : ROptions) : (fs r).lookup ("mss" : Str) = some r.mss := by kernel_rfl
theorem p_mss (y : V) (r : ROptions) : putF "mss" y (fs r) = fs { r with mss := y } := by kernel_rfl
theorem l_room (r : ROptions) : (fs r).lookup ("room" : Str) = some r.room := by kernel_rfl
theorem p_room (y : V) (r : ROptions) : putF "room" y (fs r) = fs { r with room := y } := by kernel_rfl
theorem l_life (r : ROptions) : (fs r).lookup ("life" : Str) = some r.life := by kernel_rfl
theorem p_life (y : V) (r : ROptions) : putF "life" y (fs r) = fs { r with life := y } := by kernel_rfl
theorem l_pace (r : ROptions) : (fs r).lookup ("pace" : Str) = some r.pace := by kernel_rfl
theorem p_pace (y : V) (r : ROptions) : putF "pace" y (fs r) = fs { r with pace := y } := by kernel_rfl
theorem l_tries (r : ROptions) : (fs r).lookup ("tries" : Str) = some r.tries := by kernel_rfl
theorem p_tries (y : V) (r : ROptions) : putF "tries" y (fs r) = fs { r with tries := y } := by kernel_rfl
theorem l_min_rto (r : ROptions) : (fs r).lookup ("min_rto" : Str) = some r.min_rto := by kernel_rfl
theorem p_min_rto (y : V) (r : ROptions) : putF "min_rto" y (fs r) = fs { r with min_rto := y } := by kernel_rfl
theorem l_max_rto (r : ROptions) : (fs r).lookup ("max_rto" : Str) = some r.max_rto := by kernel_rfl
theorem p_max_rto (y : V) (r : ROptions) : putF "max_rto" y (fs r) = fs { r with max_rto := y } := by kernel_rfl
theorem l_ack_delay (r : ROptions) : (fs r).lookup ("ack_delay" : Str) = some r.ack_delay := by kernel_rfl
theorem p_ack_delay (y : V) (r : ROptions) : putF "ack_delay" y (fs r) = fs { r with ack_delay := y } := by kernel_rfl
theorem l_keep_alive (r : ROptions) : (fs r).lookup ("keep_alive" : Str) = some r.keep_alive := by kernel_rfl
theorem p_keep_alive (y : V) (r : ROptions) : putF "keep_alive" y (fs r) = fs { r with keep_alive := y } := by kernel_rfl
theorem l_nagle (r : ROptions) : (fs r).lookup ("nagle" : Str) = some r.nagle := by kernel_rfl
theorem p_nagle (y : V) (r : ROptions) : putF "nagle" y (fs r) = fs { r with nagle := y } := by kernel_rfl
theorem l_control (r : ROptions) : (fs r).lookup ("control" : Str) = some r.control := by kernel_rfl
theorem p_control (y : V) (r : ROptions) : putF "control" y (fs r) = fs { r with control := y } := by kernel_rfl
end ROptions
structure RLineReader where
  lines : V
  at_ : V
namespace RLineReader
def fs (r : RLineReader) : List (Str × V) := [("lines", r.lines), ("at", r.at_)]
theorem len (r : RLineReader) : (fs r).length < 1000 := by show 2 < 1000; decide
theorem l_lines (r : RLineReader) : (fs r).lookup ("lines" : Str) = some r.lines := by kernel_rfl
theorem p_lines (y : V) (r : RLineReader) : putF "lines" y (fs r) = fs { r with lines := y } := by kernel_rfl
theorem l_at_ (r : RLineReader) : (fs r).lookup ("at" : Str) = some r.at_ := by kernel_rfl
theorem p_at_ (y : V) (r : RLineReader) : putF "at" y (fs r) = fs { r with at_ := y } := by kernel_rfl
end RLineReader

theorem bt_min : bootBuiltins "min" = some (.builtin "min") := by decide +kernel
theorem bt_max : bootBuiltins "max" = some (.builtin "max") := by decide +kernel
theorem bt_sorted : bootBuiltins "sorted" = some (.builtin "sorted") := by decide +kernel
theorem bt_isinstance : bootBuiltins "isinstance" = some (.builtin "isinstance") := by decide +kernel
theorem bt_int : bootBuiltins "int" = some (.type "int") := by decide +kernel
theorem bt_str : bootBuiltins "str" = some (.type "str") := by decide +kernel
theorem bt_list : bootBuiltins "list" = some (.type "list") := by decide +kernel
section
variable {X : Cx} {x : Str} {pos p : Pos} {f : Str} {C : Addr} {mc : Value} {i : Int} {z : Str}
theorem pe_gint (hg : Gl X x) (h : ∃ t, X.mg x = some (.int i t)) (hd : (x == ("__debug__" : Str)) = false := by decide) : PE X (.Name x pos) (tC (.int i)) := by
  obtain ⟨t, e⟩ := h
  exact pe_glob hg e ⟨t, rfl⟩ hd
theorem pe_gstr (hg : Gl X x) (h : ∃ t, X.mg x = some (.str z t)) (hd : (x == ("__debug__" : Str)) = false := by decide) : PE X (.Name x pos) (tC (.str z)) := by
  obtain ⟨t, e⟩ := h
  exact pe_glob hg e ⟨t, rfl⟩ hd
theorem pe_gref {a : Addr} (hg : Gl X x) (hm : X.mg x = some (.ref a)) (hd : (x == ("__debug__" : Str)) = false := by decide) : PE X (.Name x pos) (tC (.ref a)) := pe_glob (v := .ref a) hg hm rfl hd
/-- C.f, a written number of the class -/
theorem pe_ccon (hg : Gl X x) (hm : X.mg x = some (.ref C)) (r : CRead X.K C mc) (k : ∃ u, CVal X.K C mc f (.int i) u) (hd : (x == ("__debug__" : Str)) = false := by decide)
    (hb : attributeBase (.Name x p) f X.env (eval (.Name x p) X.env) = eval (.Name x p) X.env := by rfl) : PE X (.Attribute (.Name x p) f pos) (tC (.int i)) :=
  ⟨fun pins s σ H Q I h => (pe_cval (pe_glob (v := .ref C) hg hm rfl hd) hb).run pins s σ H Q I (by
    obtain ⟨u, k⟩ := k
    exact ⟨C, mc, _, u, rfl, r, k, h⟩)⟩
end
/-! ### heaps -/
/-- all that was tracked stands, but what is in S -/
def Kp (S : List Addr) (H H' : Hp) : Prop := ∀ b o, H b = some o → b ∉ S → H' b = some o
theorem same_app {H H' : Hp} {a : Addr} {o : HO} (e : Same H H') (h : H a = some o) : H' a = some o := e a o h
theorem kp_app {S : List Addr} {H H' : Hp} {a : Addr} {o : HO} (e : Kp S H H') (h : H a = some o) (n : a ∉ S) : H' a = some o := e a o h n
theorem upd_app {H : Hp} {a b : Addr} {o u : HO} (h : H a = some o) (n : a ≠ b) : upd H b u a = some o := by
  rw [upd_ne n]
  exact h
theorem new_app {H : Hp} {a p : Addr} {o u : HO} (f : H p = none) (h : H a = some o) : upd H p u a = some o := upd_app h (ne_of_none h f)
theorem ne_fresh {H : Hp} {a b : Addr} {o : HO} (f : H a = none) (h : H b = some o) : b ≠ a := ne_of_none h f
theorem fresh_of {H H' : Hp} {p : Addr} (f : H' p = none) (e : ∀ o, H p = some o → H' p = some o) : H p = none := by
  cases q : H p with
  | none => rfl
  | some o =>
    rw [e o q] at f
    cases f
theorem same_new {H : Hp} {p : Addr} {u : HO} (f : H p = none) : Same H (upd H p u) := fun _ _ h => new_app f h
theorem lk_eq {H : Hp} {a : Addr} {xs ys : List V} (h : H a = some (.lst xs)) (e : xs = ys) : H a = some (.lst ys) := e ▸ h
theorem not_nil (a : Addr) : a ∉ ([] : List Addr) := by simp
theorem not_mem1 {a b : Addr} (n : a ∉ [b]) : a ≠ b := fun e => n (by rw [e]; exact List.mem_singleton.mpr rfl)
theorem nin_ne {a b : Addr} {l : List Addr} (n : a ∉ l) (h : b ∈ l) : a ≠ b := fun e => n (by rw [e]; exact h)
theorem mem0 {b : Addr} {l : List Addr} : b ∈ b :: l := List.mem_cons_self
theorem mem1 {a b : Addr} {l : List Addr} : b ∈ a :: b :: l := List.mem_cons_of_mem _ mem0
theorem mem2 {a c b : Addr} {l : List Addr} : b ∈ a :: c :: b :: l := List.mem_cons_of_mem _ mem1
theorem mem3 {a c d b : Addr} {l : List Addr} : b ∈ a :: c :: d :: b :: l := List.mem_cons_of_mem _ mem2
theorem mem4 {a c d e b : Addr} {l : List Addr} : b ∈ a :: c :: d :: e :: b :: l := List.mem_cons_of_mem _ mem3
theorem not_cons {a b : Addr} {l : List Addr} (h : a ≠ b) (n : a ∉ l) : a ∉ b :: l := fun z => (List.mem_cons.mp z).elim h n
abbrev nis (ns : List Int) : List V := ns.map V.int
/-- a new list is handed back; a value -/
def RL (xs : List V) (H : Hp) (Q : VK) : Prop := ∀ p H2, H p = none → Same H H2 → H2 p = some (.lst xs) → Q (.ref p) H2
def RV (v : V) (H : Hp) (Q : VK) : Prop := ∀ H2, Same H H2 → Q v H2
/-! ### steps -/
section
variable {D : Ends} {σ : L2.St} {H : Hp} {Q : VK} {QT : Bool → Hp → Prop} {QA : List V → Hp → Prop} {te ta tb tv : TE} {t u w : TS} {tt tt' : TT} {tA tK : TA} {i : Nat} {v x y : V} {K : PySem.W.Frag} {C : Addr}
/-! -/
/-- the ways of a test -/
theorem br_t {b : Bool} {A B : Prop} (h : b = true) (k : A) : if b = true then A else B := by
  rw [if_pos h]
  exact k
theorem br_f {b : Bool} {A B : Prop} (h : b = false) (k : B) : if b = true then A else B := by
  rw [if_neg (by rw [h]; exact Bool.false_ne_true)]
  exact k
theorem br_2 {b : Bool} {A B : Prop} (h1 : b = true → A) (h2 : b = false → B) : if b = true then A else B := by
  cases b with
  | true => exact br_t rfl (h1 rfl)
  | false => exact br_f rfl (h2 rfl)
theorem c_seq (h : t { D with nx := u D } σ H) : tSeq t u D σ H := h
theorem c_asg (h : te σ H fun x H1 => D.nx (σ.set i (some x)) H1) : tAsg te (gName i) D σ H := h
theorem c_ret (h : te σ H D.rt) : tRet te D σ H := h
theorem c_retN (h : D.rt .non H) : tRetN D σ H := h
theorem c_drop (h : te σ H fun _ H1 => D.nx σ H1) : tDrop te D σ H := h
theorem c_next (h : D.nx σ H) : tNext D σ H := h
theorem c_brk (h : D.bk σ H) : tBreak D σ H := h
theorem c_if (h : tt σ H fun b H1 => if b = true then t D σ H1 else u D σ H1) : tIfS tt t u D σ H := h
theorem c_test (h : te σ H fun x H' => ∃ k, x = .bl k ∧ QT k H') : tTest te σ H QT := h
theorem c_tB (h : te σ H fun x H' => ∃ k, x = .bl k ∧ QT k H') : tB te σ H QT := h
theorem c_bl {b : Bool} {Q : Bool → Prop} (h : Q b) : ∃ k, V.bl b = .bl k ∧ Q k := ⟨b, rfl, h⟩
theorem c_not (h : tt σ H fun c H1 => QT (!c) H1) : tNot tt σ H QT := h
theorem c_and (h : tt σ H fun c H1 => if c = true then tt' σ H1 QT else QT false H1) : tAnd tt tt' σ H QT := h
theorem c_or (h : tt σ H fun c H1 => if c = true then QT true H1 else tt' σ H1 QT) : tOr tt tt' σ H QT := h
theorem c_andV (h : ta σ H fun x H1 => ∃ c, x = .bl c ∧ if c = true then tb σ H1 Q else Q (.bl false) H1) : tAndV ta tb σ H Q := h
theorem c_orV (h : ta σ H fun x H1 => ∃ c, x = .bl c ∧ if c = true then Q (.bl true) H1 else tb σ H1 Q) : tOrV ta tb σ H Q := h
theorem c_notV (h : ta σ H fun x H1 => ∃ c, x = .bl c ∧ Q (.bl (!c)) H1) : tNotV ta σ H Q := h
theorem c_ifE (h : tt σ H fun c H1 => if c = true then ta σ H1 Q else tb σ H1 Q) : tIf tt ta tb σ H Q := h
theorem c_var (h : σ[i]? = some (some v)) (k : Q v H) : tVar i σ H Q := ⟨v, h, k⟩
theorem c_c (k : Q v H) : tC v σ H Q := k
theorem c_op {r : R2} (h : ta σ H fun x H1 => tb σ H1 fun y H2 => r x y H2 Q) : tOp r ta tb σ H Q := h
theorem c_un {r : V → Hp → VK → Prop} (h : ta σ H fun x H1 => r x H1 Q) : tUn r ta σ H Q := h
theorem c_cb {r : List V → Hp → VK → Prop} (h : tA σ H fun vs H1 => r vs H1 Q) : tCB r tA σ H Q := h
theorem c_nil (h : QA [] H) : tNil σ H QA := h
theorem c_cons (h : ta σ H fun x H1 => tA σ H1 fun xs H2 => QA (x :: xs) H2) : tCons ta tA σ H QA := h
theorem c_call {sp : Sp} {dvs : List V} {E : XK} (h : tA σ H fun vs H1 => sp (vs ++ dvs) H1 Q E) : tCall sp dvs E tA σ H Q := h
theorem c_callN {n m : Nat} {sp : Sp} {gV : List V → List V → List V} {E : XK} (h : tA σ H fun vs H1 => tK σ H1 fun zs H2 => vs.length = n ∧ zs.length = m ∧ sp (gV vs zs) H2 Q E) : tCallN n m sp gV E tA tK σ H Q := h
theorem c_meth {m : Str} {sp : Sp} {dvs : List V} {E : XK} (h : ta σ H fun x H1 => ∃ a dx fs, x = .ref a ∧ H1 a = some (.ins C dx fs) ∧ fs.lookup m = none ∧ tA σ H1 fun vs H2 => sp (x :: (vs ++ dvs)) H2 Q E) : tMeth C m sp dvs E ta tA σ H Q := h
theorem c_methK {m : Str} {n nk : Nat} {sp : Sp} {gV : List V → List V → List V} (h : ta σ H fun x H1 => ∃ a dx fs, x = .ref a ∧ H1 a = some (.ins C dx fs) ∧ fs.lookup m = none ∧
    tA σ H1 fun vs H2 => tK σ H2 fun zs H3 => (x :: vs).length = n ∧ zs.length = nk ∧ sp (gV (x :: vs) zs) H3 Q E0) : tMethK C m n nk sp gV ta tA tK σ H Q := h
theorem c_make {sp : Sp} {dvs : List V} {E : XK} (h : tA σ H fun vs H1 => ∀ x dx, H1 x = none → H1 dx = none → dx ≠ x → sp (.ref x :: (vs ++ dvs)) (upd (upd H1 dx (.own x)) x (.ins C dx [])) (fun v H2 => v = .non ∧ Q (.ref x) H2) E) : tMake C sp dvs E tA σ H Q := h
theorem c_makeK {n m : Nat} {sp : Sp} {gV : List V → List V → List V} {E : XK} (h : tA σ H fun vs H1 => tK σ H1 fun zs H2 => vs.length = n ∧ zs.length = m ∧ ∀ x dx, H2 x = none → H2 dx = none → dx ≠ x →
    sp (gV (.ref x :: vs) zs) (upd (upd H2 dx (.own x)) x (.ins C dx [])) (fun v H3 => v = .non ∧ Q (.ref x) H3) E) : tMakeK C n m sp gV E tA tK σ H Q := h
theorem c_prop {sp : Sp} {dvs : List V} {E : XK} (h : ta σ H fun x H1 => ∃ a dx fs, x = .ref a ∧ H1 a = some (.ins C dx fs) ∧ sp (.ref a :: dvs) H1 Q E) : tProp C sp dvs E ta σ H Q := h
theorem c_get {R : Type} {fs : R → List (Str × V)} {get : R → V} (h : ta σ H fun x H1 => ∃ a dx r, x = .ref a ∧ H1 a = some (.ins C dx (fs r)) ∧ Q (get r) H1) : tGet C fs get ta σ H Q := h
theorem c_getl {R : Type} {fs : R → List (Str × V)} {a dx : Addr} {r : R} {H : Hp} {Rq : R → Prop} (h : H a = some (.ins C dx (fs r))) (k : Rq r) : ∃ a' dx r, V.ref a = .ref a' ∧ H a' = some (.ins C dx (fs r)) ∧ Rq r := ⟨a, dx, r, rfl, h, k⟩
theorem c_put {R : Type} {fs : R → List (Str × V)} {set : V → R → R} (h : tv σ H fun y H1 => ta σ H1 fun x H2 => ∃ a dx r, x = .ref a ∧ H2 a = some (.ins C dx (fs r)) ∧ D.nx σ (upd H2 a (.ins C dx (fs (set y r))))) : sPut C fs set ta tv D σ H := h
theorem c_ini {f : Str} (h : tv σ H fun y H1 => ta σ H1 fun x H2 => ∃ a dx fs, x = .ref a ∧ H2 a = some (.ins C dx fs) ∧ fs.length < 1000 ∧ D.nx σ (upd H2 a (.ins C dx (putF f y fs)))) : sIni C f ta tv D σ H := h
theorem c_tup (h : tA σ H fun xs H1 => xs.length ≤ sizeLine ∧ ∀ p, H1 p = none → Q (.ref p) (upd H1 p (.tup xs))) : tTup tA σ H Q := h
theorem c_lst (h : tA σ H fun xs H1 => xs.length ≤ sizeLine ∧ ∀ p, H1 p = none → Q (.ref p) (upd H1 p (.lst xs))) : tLst tA σ H Q := h
theorem c_sl {r : V → Option Int → Option Int → Hp → VK → Prop} {tl th : TO} (h : te σ H fun x H1 => tl σ H1 fun l H2 => th σ H2 fun u H3 => r x l u H3 Q) : tSl r te tl th σ H Q := h
theorem c_nop {QO : Option Int → Hp → Prop} (h : QO none H) : tNoPart σ H QO := h
theorem c_part {QO : Option Int → Hp → Prop} (h : te σ H fun x H1 => ∃ i, x = .int i ∧ QO (some i) H1) : tPart te σ H QO := h
theorem c_parti {i : Int} {P : Int → Prop} (k : P i) : ∃ j, V.int i = .int j ∧ P j := ⟨i, rfl, k⟩
theorem c_bm {T : String} {r : V → List V → Hp → VK → Prop} (h : te σ H fun x H1 => tyV K T x H1 ∧ tA σ H1 fun xs H2 => r x xs H2 Q) : tBM K T r te tA σ H Q := h
theorem c_bm0 {T : String} {r : V → List V → Hp → VK → Prop} (h : te σ H fun x H1 => tyV K T x H1 ∧ r x [] H1 Q) : tBM0 K T r te σ H Q := h
theorem c_rI0 {g : Int → Int → V} {i j : Int} (k : Q (g i j) H) : rI0 g (.int i) (.int j) H Q := ⟨i, j, rfl, rfl, k⟩
theorem c_rI {Cn : Int → Int → Prop} {g : Int → Int → V} {i j : Int} (c : Cn i j) (k : Q (g i j) H) : rI Cn g (.int i) (.int j) H Q := ⟨i, j, rfl, rfl, c, k⟩
theorem c_rEq (h : scal x y = true) (k : Q (.bl (decide (x = y))) H) : rEq x y H Q := ⟨h, k⟩
theorem c_rNe (h : scal x y = true) (k : Q (.bl (!decide (x = y))) H) : rNe x y H Q := ⟨h, k⟩
theorem c_isN (k : Q (.bl (decide (x = .non))) H) : V.non = .non ∧ Q (.bl (decide (x = .non))) H := ⟨rfl, k⟩
theorem c_notN (k : Q (.bl (!decide (x = .non))) H) : V.non = .non ∧ Q (.bl (!decide (x = .non))) H := ⟨rfl, k⟩
theorem c_len {p : Addr} {xs : List V} {Rq : List V → Prop} (h : H p = some (.lst xs)) (k : Rq xs) : ∃ p' ys, [V.ref p] = [.ref p'] ∧ (SqL K H p' ys ∨ SqT K H p' ys) ∧ Rq ys := ⟨p, xs, rfl, .inl (SqL.of h), k⟩
theorem c_fresh {B : Addr → Prop} (k : ∀ p, H p = none → B p) : ∀ p, H p = none → B p := k
theorem c_fresh2 {B : Addr → Addr → Prop} (k : ∀ x dx, H x = none → H dx = none → dx ≠ x → B x dx) : ∀ x dx, H x = none → H dx = none → dx ≠ x → B x dx := k
theorem c_RL {xs : List V} (k : ∀ p H2, H p = none → Same H H2 → H2 p = some (.lst xs) → Q (.ref p) H2) : RL xs H Q := k
theorem c_RV (k : ∀ H2, Same H H2 → Q v H2) : RV v H Q := k
theorem c_andrfl {a : V} {A : Prop} (k : A) : a = a ∧ A := ⟨rfl, k⟩
theorem c_cat {l b : Addr} {xs zs : List V} (h1 : H l = some (.lst xs)) (h2 : H b = some (.lst zs)) (hz : xs.length + zs.length ≤ sizeLine) (k : ∀ p, H p = none → Q (.ref p) (upd H p (.lst (xs ++ zs)))) : rCat (.ref l) (.ref b) H Q := ⟨l, b, xs, zs, rfl, rfl, h1, h2, hz, k⟩
theorem c_for {wi : TI} {g : TG} {tb : TS} (h : wi σ H fun J H1 => ∃ W : Nat → Nat → L2.St → Hp → Prop, (∃ m, W 0 m σ H1) ∧ ∀ i m σ H, W i m σ H →
    (J.stop i H ∧ D.nx σ H) ∨ (J.go i H ∧ ∃ N : L2.St → Hp → Prop, (∀ σ' H', N σ' H' → ∃ m', m' < m ∧ W (i + 1) m' σ' H') ∧ ∀ x H', J.yld i H x H' → g x σ H' fun σ2 H2 => tb { D with nx := N, ct := N, bk := D.nx } σ2 H2)) : tFor wi g tb D σ H := h
theorem c_iRng {Rq : It → Hp → Prop} (h : tA σ H fun vs H1 => ∃ j : Int, vs = [.int j] ∧ -(2 ^ 62) ≤ j ∧ j < 2 ^ 62 ∧ Rq (Itr 0 j.toNat) H1) : iRng1 tA σ H Rq := h
theorem c_rngl {n : Int} {Rq : Int → Prop} (hn : 0 ≤ n ∧ n ≤ 1000000) (k : Rq n) : ∃ j : Int, [V.int n] = [.int j] ∧ -(2 ^ 62) ≤ j ∧ j < 2 ^ 62 ∧ Rq j := ⟨n, rfl, by omega, by omega, k⟩
theorem c_iList {Rq : It → Hp → Prop} (h : te σ H fun x H1 => ∃ a, x = .ref a ∧ (∃ xs, SqL K H1 a xs) ∧ Rq (Itl K a) H1) : iList K te σ H Rq := h
theorem c_lstl {a : Addr} {xs : List V} {Rq : Addr → Prop} (h : H a = some (.lst xs)) (k : Rq a) : ∃ a', V.ref a = .ref a' ∧ (∃ xs, SqL K H a' xs) ∧ Rq a' := ⟨a, rfl, ⟨xs, SqL.of h⟩, k⟩
theorem c_loopR {m n : Nat} {g : TG} {tb : TS} (hm : m = n) (Pv : Nat → L2.St → Hp → Prop) (h0 : Pv 0 σ H)
    (hs : ∀ i σ' H', i < n → Pv i σ' H' → g (.int i) σ' H' fun σ2 H2 => tb { D with nx := Pv (i + 1), ct := Pv (i + 1), bk := D.nx } σ2 H2) (hd : ∀ σ' H', Pv n σ' H' → D.nx σ' H') :
    ∃ W : Nat → Nat → L2.St → Hp → Prop, (∃ m', W 0 m' σ H) ∧ ∀ i m0 σ H, W i m0 σ H →
      ((Itr 0 m).stop i H ∧ D.nx σ H) ∨ ((Itr 0 m).go i H ∧ ∃ N : L2.St → Hp → Prop, (∀ σ' H', N σ' H' → ∃ m', m' < m0 ∧ W (i + 1) m' σ' H') ∧ ∀ x H', (Itr 0 m).yld i H x H' → g x σ H' fun σ2 H2 => tb { D with nx := N, ct := N, bk := D.nx } σ2 H2) :=
  by
  subst hm
  exact for_range (lo := 0) (n := m) Pv h0 (fun i σ' H' hi p => by
    have e0 : (0 : Int) + (i : Int) = (i : Int) := Int.zero_add _
    rw [e0]
    exact hs i σ' H' hi p) hd
theorem c_loopL {a : Addr} {xs : List V} {g : TG} {tb : TS} (Pv : Nat → L2.St → Hp → Prop) (h0 : Pv 0 σ H) (hl : ∀ i σ' H', Pv i σ' H' → H' a = some (.lst xs))
    (hs : ∀ i x σ' H', xs[i]? = some x → Pv i σ' H' → g x σ' H' fun σ2 H2 => tb { D with nx := Pv (i + 1), ct := Pv (i + 1), bk := D.nx } σ2 H2) (hd : ∀ σ' H', Pv xs.length σ' H' → D.nx σ' H') :
    ∃ W : Nat → Nat → L2.St → Hp → Prop, (∃ m, W 0 m σ H) ∧ ∀ i m σ H, W i m σ H →
      ((Itl K a).stop i H ∧ D.nx σ H) ∨ ((Itl K a).go i H ∧ ∃ N : L2.St → Hp → Prop, (∀ σ' H', N σ' H' → ∃ m', m' < m ∧ W (i + 1) m' σ' H') ∧ ∀ x H', (Itl K a).yld i H x H' → g x σ H' fun σ2 H2 => tb { D with nx := N, ct := N, bk := D.nx } σ2 H2) :=
  for_list (K := K) (a := a) (xs := xs) Pv h0 (fun i σ' H' _ p => SqL.of (hl i σ' H' p)) hs hd
theorem c_gname {j : Nat} {k : L2.St → Hp → Prop} (h : k (σ.set j (some v)) H) : gName j v σ H k := h
theorem c_append {l : Addr} {xs : List V} (h : H l = some (.lst xs)) (hz : xs.length < sizeLine) (k : Q .non (upd H l (.lst (xs ++ [y])))) : rAppend (.ref l) [y] H Q := ⟨l, xs, y, rfl, rfl, h, hz, k⟩
theorem c_reverse {l : Addr} {xs : List V} (h : H l = some (.lst xs)) (k : Q .non (upd H l (.lst xs.reverse))) : rReverse (.ref l) [] H Q := ⟨l, xs, rfl, rfl, h, k⟩
theorem c_tyL {p : Addr} {xs : List V} {A : Prop} (h : H p = some (.lst xs)) (k : A) : tyV K "list" (.ref p) H ∧ A := ⟨.inl ⟨rfl, _, SqL.of h⟩, k⟩
theorem c_getl3 {R : Type} {fs : R → List (Str × V)} {a dx : Addr} {r : R} {Rq : Addr → Addr → R → Prop} (h : H a = some (.ins C dx (fs r))) (k : Rq a dx r) : ∃ a' dx' r', V.ref a = .ref a' ∧ H a' = some (.ins C dx' (fs r')) ∧ Rq a' dx' r' := ⟨a, dx, r, rfl, h, k⟩
theorem c_get2 {R : Type} {fs : R → List (Str × V)} {a dx : Addr} {r : R} {Rq : Addr → R → Prop} (h : H a = some (.ins C dx (fs r))) (k : Rq dx r) : ∃ dx' r', H a = some (.ins C dx' (fs r')) ∧ Rq dx' r' := ⟨dx, r, h, k⟩
/-- any attributes -/
theorem c_insl {fs : List (Str × V)} {a dx : Addr} {Rq : Addr → Addr → List (Str × V) → Prop} (h : H a = some (.ins C dx fs)) (k : Rq a dx fs) : ∃ a' dx' fs', V.ref a = .ref a' ∧ H a' = some (.ins C dx' fs') ∧ Rq a' dx' fs' := ⟨a, dx, fs, rfl, h, k⟩
theorem c_and1 {A B : Prop} (h : A) (k : B) : A ∧ B := ⟨h, k⟩
theorem c_putaug {R : Type} {fs : R → List (Str × V)} {get : R → V} {set : V → R → R} {rd : V → V → Hp → VK → Prop} (h : ta σ H fun x H1 => ∃ a dx r, x = .ref a ∧ H1 a = some (.ins C dx (fs r)) ∧
  tv σ H1 fun y H2 => rd (get r) y H2 fun z H3 => ∃ dx' r', H3 a = some (.ins C dx' (fs r')) ∧ D.nx σ (upd H3 a (.ins C dx' (fs (set z r'))))) : sPutAug C fs get set ta tv rd D σ H := h
theorem c_rAdd {i j : Int} (k : Q (.int (i + j)) H) : rAdd (.int i) (.int j) H Q := ⟨i, j, rfl, rfl, k⟩
theorem c_rSub {i j : Int} (k : Q (.int (i - j)) H) : rSub (.int i) (.int j) H Q := ⟨i, j, rfl, rfl, k⟩
theorem c_aug {ti : TIp} (h : σ[i]? = some (some x)) (k : te σ H fun y H1 => ti x y H1 fun z H2 => D.nx (σ.set i (some z)) H2) : tAug i te ti D σ H := ⟨x, h, k⟩
theorem c_ipI {f : Int → Int → Int} {i j : Int} (k : Q (.int (f i j)) H) : ipI f (.int i) (.int j) H Q := ⟨i, j, rfl, rfl, k⟩
theorem c_ixT {p : Addr} {xs : List V} {i : Int} (h : H p = some (.tup xs)) (e : atI xs i = some v) (k : Q v H) : rIxT K (.ref p) (.int i) H Q := ⟨p, xs, i, v, rfl, rfl, SqT.of h, e, k⟩
theorem c_ixL {p : Addr} {xs : List V} {i : Int} (h : H p = some (.lst xs)) (e : atI xs i = some v) (k : Q v H) : rIxL K (.ref p) (.int i) H Q := ⟨p, xs, i, v, rfl, rfl, SqL.of h, e, k⟩
theorem c_slL {p : Addr} {xs : List V} {lo hi : Option Int} (h : H p = some (.lst xs)) (k : ∀ p, H p = none → Q (.ref p) (upd H p (.lst (cutV xs lo hi)))) : rSlL K (.ref p) lo hi H Q := ⟨p, xs, rfl, SqL.of h, k⟩
theorem c_int1 {i : Int} {Rq : Int → Prop} {B : Prop} (k : Rq i) : (∃ i', [V.int i] = [.int i'] ∧ Rq i') ∨ B := .inl ⟨i, rfl, k⟩
theorem c_intb {b : Bool} {Rq : Bool → Prop} {B : Prop} (k : Rq b) : B ∨ ∃ b', [V.bl b] = [.bl b'] ∧ Rq b' := .inr ⟨b, rfl, k⟩
theorem c_two {i j : Int} {Rq : Int → Int → Prop} (k : Rq i j) : ∃ i' j', [V.int i, V.int j] = [.int i', .int j'] ∧ Rq i' j' := ⟨i, j, rfl, k⟩
theorem c_listof {p : Addr} {xs : List V} {Rq : List V → Prop} (h : H p = some (.lst xs)) (k : Rq xs) : ∃ p' ys, [V.ref p] = [.ref p'] ∧ (SqL K H p' ys ∨ SqT K H p' ys) ∧ Rq ys := ⟨p, xs, rfl, .inl (SqL.of h), k⟩
theorem c_listofT {p : Addr} {xs : List V} {Rq : List V → Prop} (h : SqT K H p xs) (k : Rq xs) : ∃ p' ys, [V.ref p] = [.ref p'] ∧ (SqL K H p' ys ∨ SqT K H p' ys) ∧ Rq ys := ⟨p, xs, rfl, .inr h, k⟩
theorem c_strI {i : Int} {Rq : Int → Prop} (h : i.natAbs.log2 < 1920) (k : Rq i) : ∃ i', [V.int i] = [.int i'] ∧ i'.natAbs.log2 < 1920 ∧ Rq i' := ⟨i, rfl, h, k⟩
theorem c_dgetU {td ty : TE} (h : td σ H fun x H1 => ty σ H1 fun y H2 => ∃ a v, x = .ref a ∧ DGet H2 a y (some v) ∧ Q v H2) : tDGet td ty σ H Q := h
theorem c_dgetS {a : Addr} {kvs : List (Key × V)} {z : Str} {Rq : V → Prop} (h : H a = some (.dK kvs)) (e : valV kvs (Sum.inr z) = some v) (k : Rq v) : ∃ a' v', V.ref a = .ref a' ∧ DGet H a' (.str z) (some v') ∧ Rq v' := ⟨a, v, rfl, by rw [← e]; exact DGet.k (k := Sum.inr z) h, k⟩
theorem c_dgetI {a : Addr} {kvs : List (Key × V)} {z : Int} {Rq : V → Prop} (h : Rd H a (.dK kvs)) (e : valV kvs (Sum.inl z) = some v) (k : Rq v) : ∃ a' v', V.ref a = .ref a' ∧ DGet H a' (.int z) (some v') ∧ Rq v' := ⟨a, v, rfl, .inl ⟨kvs, Sum.inl z, h, rfl, e.symm⟩, k⟩
theorem c_dputU {td ty : TE} (h : tv σ H fun v H1 => td σ H1 fun x H2 => ty σ H2 fun y H3 => ∃ a H4, x = .ref a ∧ DPut H3 a y v H4 ∧ D.nx σ H4) : sDPut td ty tv D σ H := h
theorem c_dputS {a : Addr} {kvs : List (Key × V)} {z : Str} {Rq : Hp → Prop} (h : H a = some (.dK kvs)) (hz : kvs.length < sizeLine) (k : Rq (upd H a (.dK (putK kvs (Sum.inr z) v)))) : ∃ a' H4, V.ref a = .ref a' ∧ DPut H a' (.str z) v H4 ∧ Rq H4 := ⟨a, _, rfl, DPut.k (k := Sum.inr z) h hz, k⟩
theorem c_dputI {a : Addr} {kvs : List (Key × V)} {z : Int} {Rq : Hp → Prop} (h : H a = some (.dK kvs)) (hz : kvs.length < sizeLine) (k : Rq (upd H a (.dK (putK kvs (Sum.inl z) v)))) : ∃ a' H4, V.ref a = .ref a' ∧ DPut H a' (.int z) v H4 ∧ Rq H4 := ⟨a, _, rfl, DPut.k (k := Sum.inl z) h hz, k⟩
theorem c_yes (k : QT true H) : tYes σ H QT := k
theorem c_dnew (k : ∀ p, H p = none → Q (.ref p) (upd H p (.dK []))) : tDNewK σ H Q := k
theorem c_lc {wi : TI} {g : TG} {vs : List Nat} (h : wi σ H fun J H1 => ∀ D, H1 D = none → ∃ W : Nat → Nat → Hp → Prop, (∃ m, W 0 m (upd H1 D (.lst []))) ∧ ∀ i m H, W i m H →
  (J.stop i H ∧ Q (.ref D) H) ∨ (J.go i H ∧ ∃ Nx : Hp → Prop, (∀ H', Nx H' → ∃ m', m' < m ∧ W (i + 1) m' H') ∧ ∀ x H', J.yld i H x H' → g x (wipe σ vs) H' fun σ2 H2 => wipe σ2 vs = wipe σ vs ∧ tt σ2 H2 fun b H3 =>
    if b = true then te σ2 H3 fun y H4 => ∃ acc, H4 D = some (.lst acc) ∧ acc.length < sizeLine ∧ Nx (upd H4 D (.lst (acc ++ [y]))) else Nx H3)) : tLc wi g tt te vs σ H Q := h
/-- over a list: each element new or old, the heap only grows. The told parts must not speak of the list that is made: Rl i y H is asked of heaps that hold what H0 held -/
theorem c_mapL {a : Addr} {xs : List V} {j : Nat} {vs : List Nat} {Dl : Addr} {Rl : Nat → V → Hp → Prop} {Qd : Hp → Prop} (h : H a = some (.lst xs)) (hz : xs.length ≤ 100000) (fD : H Dl = none) (hw : ∀ x, wipe ((wipe σ vs).set j (some x)) vs = wipe σ vs)
    (he : ∀ i x H', xs[i]? = some x → Same H H' → ∀ Q' : VK, (∀ y H2, Same H' H2 → (∀ H3, (∀ b o, H2 b = some o → b ≠ Dl → H3 b = some o) → Rl i y H3) → Q' y H2) → te ((wipe σ vs).set j (some x)) H' Q')
    (mo : ∀ i y H2 H3, (∀ b o, H2 b = some o → b ≠ Dl → H3 b = some o) → Rl i y H2 → Rl i y H3)
    (k : ∀ ys H2, Same H H2 → H2 Dl = some (.lst ys) → ys.length = xs.length → (∀ (i : Nat) y, ys[i]? = some y → Rl i y H2) → Qd H2) :
    ∃ W : Nat → Nat → Hp → Prop, (∃ m, W 0 m (upd H Dl (.lst []))) ∧ ∀ i m H, W i m H →
      ((Itl K a).stop i H ∧ Qd H) ∨ ((Itl K a).go i H ∧ ∃ Nx : Hp → Prop, (∀ H', Nx H' → ∃ m', m' < m ∧ W (i + 1) m' H') ∧ ∀ x H', (Itl K a).yld i H x H' → gName j x (wipe σ vs) H' fun σ2 H2 => wipe σ2 vs = wipe σ vs ∧ tYes σ2 H2 fun b H3 =>
        if b = true then te σ2 H3 fun y H4 => ∃ acc, H4 Dl = some (.lst acc) ∧ acc.length < sizeLine ∧ Nx (upd H4 Dl (.lst (acc ++ [y]))) else Nx H3) := by
  refine lc_list (K := K) (a := a) (xs := xs) (fun i H' => Same H H' ∧ ∃ ys : List V, H' Dl = some (.lst ys) ∧ ys.length = i ∧ ∀ (m : Nat) y, ys[m]? = some y → Rl m y H') ⟨same_new fD, [], upd_same, rfl, fun m y e => by simp at e⟩ (fun i H' _ p => SqL.of (p.1 _ _ h)) ?_ ?_
  · rintro i x H' hx ⟨e, ys, hD, hl, hr⟩
    refine ⟨hw x, ?_⟩
    refine c_yes ?_
    rw [if_pos rfl]
    refine he i x H' hx e _ fun y H2 e2 ry => ?_
    have hi : i < xs.length := (List.getElem?_eq_some_iff.mp hx).1
    refine ⟨ys, e2 _ _ hD, by rw [hl, sizeLine_eq]; omega, fun b o hb => upd_app (e2 _ _ (e _ _ hb)) (ne_fresh fD hb), _, upd_same, by rw [List.length_append, hl]; rfl, fun m z hm => ?_⟩
    have st : ∀ b o, H2 b = some o → b ≠ Dl → upd H2 Dl (.lst (ys ++ [y])) b = some o := fun b o hb n => upd_app hb n
    by_cases q : m < ys.length
    · rw [List.getElem?_append_left q] at hm
      exact mo _ _ _ _ st (mo _ _ _ _ (fun b o hb _ => e2 b o hb) (hr m z hm))
    · rw [List.getElem?_append_right (by omega)] at hm
      have q2 : m - ys.length = 0 := by
        have := (List.getElem?_eq_some_iff.mp hm).1
        simp at this
        omega
      rw [q2] at hm
      have q3 : y = z := by simpa using hm
      have q4 : m = i := by omega
      rw [← q3, q4]
      exact ry _ st
  · rintro H' ⟨e, ys, hD, hl, hr⟩
    exact k ys H' e hD hl hr
end
end K99
end
/-! part B2 -/
section
namespace K99
open PySem PySem.Spec PyProof.Rows L2 ClX
/-- what super() wants of the whole program -/
class PrOk (P : Program) : Prop where
  top : (P.main.scope.names.lookup ("super" : Str)).isSome = false
  file : P.main.file = mainF
section
variable {K : PySem.W.Frag} {x qual : Str} {params : Arguments} {body : List Stmt} {scope : Scope} {kws : List (Str × V)} {f : Addr} {fd : FuncData} {ps : List Str}
/-- every parameter is given, the last ones by name -/
theorem kbAll (F : FunD K x qual params body scope [] kws f fd) (n : Nat) (ks : List Str)
    (h : ∀ (kV doc pm : Value) (an : Option Addr) (cdv ct : Value) (us ws : List Value), us.length = n → ws.length = ks.length → bindArgs (PySem.W.fnOf x qual params body scope .none kV doc pm an cdv ct) ⟨us, ks.zip ws⟩ = pure (ps.zip (us ++ ws))) :
    KBn K fd ps n ks (fun us ws => us ++ ws) (fun vs zs => vs ++ zs) := by
  obtain ⟨oc, od, dV, kV, doc, pm, an, cdv, ct, osl, rfl, lk, hcd, hD, hK⟩ := F.ex
  rcases hD with ⟨_, rfl⟩ | ⟨e, _⟩
  · exact ⟨fun s us ws _ l1 l2 => .of_eq (h kV doc pm an cdv ct us ws l1 l2), fun r1 r2 => r1.append r2⟩
  · exact absurd rfl e
end
section
variable {D : Ends} {σ : L2.St} {H : Hp} {Q : VK} {K : PySem.W.Frag}
/-- a while of at most one turn -/
theorem c_while1 {c : TT} {tb : TS} (h : c σ H fun b H1 => if b = true then ∃ N : L2.St → Hp → Prop, (∀ σ' H', N σ' H' → c σ' H' fun b H2 => if b = true then ∃ N : L2.St → Hp → Prop, (∀ σ' H', N σ' H' → False) ∧ tb { D with nx := N, ct := N, bk := D.nx } σ' H2 else D.nx σ' H2) ∧
    tb { D with nx := N, ct := N, bk := D.nx } σ H1 else D.nx σ H1) : tWhile c tb D σ H := by
  let W0 : L2.St → Hp → Prop := fun σ' H' => c σ' H' fun b H2 => if b = true then ∃ N : L2.St → Hp → Prop, (∀ σ' H', N σ' H' → False) ∧ tb { D with nx := N, ct := N, bk := D.nx } σ' H2 else D.nx σ' H2
  refine ⟨fun m σ' H' => (m = 0 ∧ W0 σ' H') ∨ (m = 1 ∧ σ' = σ ∧ H' = H), ⟨1, .inr ⟨rfl, rfl, rfl⟩⟩, ?_⟩
  intro m σ' H' w
  rcases w with ⟨rfl, w⟩ | ⟨rfl, rfl, rfl⟩
  · have e : ∀ σ' H', (∃ m', m' < 0 ∧ ((m' = 0 ∧ W0 σ' H') ∨ (m' = 1 ∧ σ' = σ ∧ H' = H))) = False := by
      intro σ' H'
      apply propext
      constructor
      · rintro ⟨m', h, _⟩
        exact absurd h (Nat.not_lt_zero _)
      · exact False.elim
    simp only [e]
    exact w
  · have e : ∀ σ2 H2, (∃ m', m' < 1 ∧ ((m' = 0 ∧ W0 σ2 H2) ∨ (m' = 1 ∧ σ2 = σ' ∧ H2 = H'))) = W0 σ2 H2 := by
      intro σ2 H2
      apply propext
      constructor
      · rintro ⟨m', h, ⟨_, w⟩ | ⟨z, _⟩⟩
        · exact w
        · omega
      · exact fun w => ⟨0, Nat.zero_lt_one, .inl ⟨rfl, w⟩⟩
    simp only [e]
    exact h
theorem c_iEnum {tA : TA} {Rq : It → Hp → Prop} (h : tA σ H fun vs H1 => ∃ a xs, vs = [.ref a] ∧ SqL K H1 a xs ∧ Rq (Ite K a) H1) : iEnum K tA σ H Rq := h
theorem c_enl {a : Addr} {xs : List V} {Rq : Addr → Prop} (h : H a = some (.lst xs)) (k : Rq a) : ∃ a' ys, [V.ref a] = [V.ref a'] ∧ SqL K H a' ys ∧ Rq a' := ⟨a, xs, rfl, SqL.of h, k⟩
/-- a loop over enumerate of a list that stays -/
theorem c_loopE {a : Addr} {xs : List V} {g : TG} {tb : TS} (Pv : Nat → L2.St → Hp → Prop) (h0 : Pv 0 σ H) (hl : ∀ i σ' H', Pv i σ' H' → H' a = some (.lst xs))
    (hs : ∀ (i : Nat) x T σ' H', xs[i]? = some x → Pv i σ' H' → H' T = none → g (.ref T) σ' (upd H' T (.tup [.int (i : Nat), x])) fun σ2 H2 => tb { D with nx := Pv (i + 1), ct := Pv (i + 1), bk := D.nx } σ2 H2) (hd : ∀ σ' H', Pv xs.length σ' H' → D.nx σ' H') :
    ∃ W : Nat → Nat → L2.St → Hp → Prop, (∃ m, W 0 m σ H) ∧ ∀ i m σ H, W i m σ H →
      ((Ite K a).stop i H ∧ D.nx σ H) ∨ ((Ite K a).go i H ∧ ∃ N : L2.St → Hp → Prop, (∀ σ' H', N σ' H' → ∃ m', m' < m ∧ W (i + 1) m' σ' H') ∧ ∀ x H', (Ite K a).yld i H x H' → g x σ H' fun σ2 H2 => tb { D with nx := N, ct := N, bk := D.nx } σ2 H2) := by
  refine ⟨fun i m σ H => m = xs.length - i ∧ i ≤ xs.length ∧ Pv i σ H, ⟨xs.length, rfl, Nat.zero_le _, h0⟩, ?_⟩
  rintro i m σ H ⟨rfl, hi, p⟩
  have q := hl i σ H p
  by_cases hlt : i < xs.length
  · have hx : xs[i]? = some xs[i] := List.getElem?_eq_getElem hlt
    refine .inr ⟨⟨xs, _, SqL.of q, hx⟩, Pv (i + 1), fun σ' H' p' => ⟨xs.length - (i + 1), by omega, rfl, hlt, p'⟩, fun v H' y => ?_⟩
    obtain ⟨T, x', rfl, hT, rfl, f1⟩ := y
    exact hs i x' T σ H (f1 xs (SqL.of q)) p hT
  · have e : i = xs.length := by omega
    subst e
    exact .inl ⟨⟨xs, SqL.of q, Nat.le_refl _⟩, hd σ H p⟩
/-- a, b = a pair -/
theorem c_gpair {i j : Nat} {T : Addr} {u v : V} {k : L2.St → Hp → Prop} (h : H T = some (.tup [u, v])) (q : k ((σ.set i (some u)).set j (some v)) H) : gTup K 2 (gCons (gName i) (gCons (gName j) gNil)) (.ref T) σ H k :=
  ⟨T, [u, v], rfl, SqT.of h, rfl, u, [v], rfl, v, [], rfl, rfl, q⟩
end
theorem lk_v {Q : VK} {H : Hp} {v u : V} (q : Q v H) (e : v = u) : Q u H := e ▸ q
theorem nd_f {p : Prop} [Decidable p] (h : p) : (!decide p) = false := by simp [h]
theorem nd_t {p : Prop} [Decidable p] (h : ¬ p) : (!decide p) = true := by simp [h]
theorem cut_none (xs : List V) : cutV xs none none = xs := by
  unfold cutV
  rw [HT.sIx_none, HT.sIx_none]
  simp
theorem cut_hi (xs : List V) {i : Int} (k : Nat) (e : i = (k : Int)) : cutV xs none (some i) = xs.take k := by
  unfold cutV
  rw [e, HT.sIx_none, HT.sIx_nat]
  simp
theorem cut_lo (xs : List V) {i : Int} (k : Nat) (e : i = (k : Int)) : cutV xs (some i) none = xs.drop k := by
  unfold cutV
  rw [e, HT.sIx_none, HT.sIx_nat]
  by_cases q : k ≤ xs.length
  · rw [Nat.min_eq_left q, List.take_of_length_le (by simp)]
  · rw [List.drop_eq_nil_of_le (by omega), List.drop_eq_nil_of_le (by omega)]
    simp
theorem cut_nil (lo hi : Option Int) : cutV [] lo hi = [] := by
  unfold cutV
  simp
theorem nis_nil : ([] : List V) = nis [] := rfl
theorem nis_cons {i : Int} {xs : List V} {ns : List Int} (e : xs = nis ns) : V.int i :: xs = nis (i :: ns) := by rw [e]; rfl
theorem nis_app {xs ys : List V} {a b : List Int} (e : xs = nis a) (f : ys = nis b) : xs ++ ys = nis (a ++ b) := by rw [e, f]; simp
theorem nis_take {a : List Int} (k : Nat) : (nis a).take k = nis (a.take k) := List.map_take.symm
theorem nis_drop {a : List Int} (k : Nat) : (nis a).drop k = nis (a.drop k) := List.map_drop.symm
theorem nis_at {a : List Int} {i : Nat} {x : V} (h : (nis a)[i]? = some x) : ∃ n, x = .int n ∧ a[i]? = some n := by
  rw [List.getElem?_map] at h
  cases q : a[i]? with
  | none => rw [q] at h; cases h
  | some n => rw [q] at h; exact ⟨n, (Option.some.inj h).symm, rfl⟩
/-! ### __init__ -/
section
variable {H : Hp} {Q : VK} {K : PySem.W.Frag}
/-- an __init__ has filled in the object at p -/
def RI (p : Addr) (o : HO) (H : Hp) (Q : VK) : Prop := ∀ H2, Kp [p] H H2 → H2 p = some o → Q .non H2
theorem c_RI {p : Addr} {o : HO} (k : ∀ H2, Kp [p] H H2 → H2 p = some o → Q .non H2) : RI p o H Q := k
/-- the same with new objects in it -/
def RI1 (p : Addr) (o : Addr → HO) (u : HO) (H : Hp) (Q : VK) : Prop := ∀ a H2, H a = none → a ≠ p → Kp [p] H H2 → H2 p = some (o a) → H2 a = some u → Q .non H2
def RI2 (p : Addr) (o : Addr → Addr → HO) (u v : HO) (H : Hp) (Q : VK) : Prop := ∀ a b H2, H a = none → H b = none → a ≠ p → b ≠ p → a ≠ b → Kp [p] H H2 → H2 p = some (o a b) → H2 a = some u → H2 b = some v → Q .non H2
def RI3 (p : Addr) (o : Addr → Addr → Addr → HO) (u v x : HO) (H : Hp) (Q : VK) : Prop := ∀ a b c H2, H a = none → H b = none → H c = none → a ≠ p → b ≠ p → c ≠ p → a ≠ b → a ≠ c → b ≠ c → Kp [p] H H2 → H2 p = some (o a b c) → H2 a = some u → H2 b = some v → H2 c = some x → Q .non H2
theorem c_RI1 {p : Addr} {o : Addr → HO} {u : HO} (k : ∀ a H2, H a = none → a ≠ p → Kp [p] H H2 → H2 p = some (o a) → H2 a = some u → Q .non H2) : RI1 p o u H Q := k
theorem c_RI2 {p : Addr} {o : Addr → Addr → HO} {u v : HO} (k : ∀ a b H2, H a = none → H b = none → a ≠ p → b ≠ p → a ≠ b → Kp [p] H H2 → H2 p = some (o a b) → H2 a = some u → H2 b = some v → Q .non H2) : RI2 p o u v H Q := k
theorem c_RI3 {p : Addr} {o : Addr → Addr → Addr → HO} {u v x : HO} (k : ∀ a b c H2, H a = none → H b = none → H c = none → a ≠ p → b ≠ p → c ≠ p → a ≠ b → a ≠ c → b ≠ c → Kp [p] H H2 → H2 p = some (o a b c) → H2 a = some u → H2 b = some v → H2 c = some x → Q .non H2) : RI3 p o u v x H Q := k
theorem c_len1k {n : Nat} {A : Prop} (h : Nat.ble (n + 1) 1000 = true) (k : A) : n < 1000 ∧ A := ⟨Nat.le_of_ble_eq_true h, k⟩
theorem c_nolk {fs : List (Str × V)} {m : Str} {A : Prop} (h : fs.lookup m = none) (k : A) : fs.lookup m = none ∧ A := ⟨h, k⟩
theorem ins_eq {a dx C : Addr} {f g : List (Str × V)} (h : H a = some (.ins C dx f)) (e : f = g) : H a = some (.ins C dx g) := e ▸ h
/-- an empty list or tuple -/
def Emp (K : PySem.W.Frag) (a p : Addr) (H : Hp) : Prop := (H a = some (.lst []) ∧ a ≠ p) ∨ ∀ H', SqT K H' a []
theorem emp_at {a p : Addr} {H' : Hp} (z : Emp K a p H) (e : H a = some (.lst []) → a ≠ p → H' a = some (.lst [])) : SqL K H' a [] ∨ SqT K H' a [] := z.elim (fun h => .inl (SqL.of (e h.1 h.2))) fun h => .inr (h _)
theorem c_andn {a b : Nat} {A : Prop} (h : a = b) (k : A) : a = b ∧ A := ⟨h, k⟩
theorem emp_l {a p : Addr} {xs : List V} (h : H a = some (.lst xs)) (e : xs = []) (n : a ≠ p) : Emp K a p H := .inl ⟨by rw [h, e], n⟩
theorem emp_t {a p : Addr} (h : ∀ H, SqT K H a []) : Emp K a p H := .inr h
theorem c_listofA {p : Addr} {xs : List V} {Rq : List V → Prop} (h : SqL K H p xs ∨ SqT K H p xs) (k : Rq xs) : ∃ p' ys, [V.ref p] = [.ref p'] ∧ (SqL K H p' ys ∨ SqT K H p' ys) ∧ Rq ys := ⟨p, xs, rfl, h, k⟩
theorem c_listofL {p : Addr} {xs : List V} {Rq : List V → Prop} (h : H p = some (.lst xs)) (k : Rq xs) : ∃ p' ys, [V.ref p] = [.ref p'] ∧ (SqL K H p' ys ∨ SqT K H p' ys) ∧ Rq ys := ⟨p, xs, rfl, .inl (SqL.of h), k⟩
end
/-! ### a < b < c < d -/
section
variable {X : Cx} {a b c d : Expr} {ta tb tc td : TE} {pos : Pos} {σ : L2.St} {H : Hp} {Q : VK}
def tChain3 (r r' r'' : R2) (ta tb tc td : TE) : TE := fun σ H Q => ta σ H fun x H1 => tb σ H1 fun y H2 => r x y H2 fun z H3 => ∃ k, z = .bl k ∧
  (if k = true then tc σ H3 fun x3 H4 => r' y x3 H4 fun z2 H5 => ∃ k2, z2 = .bl k2 ∧ (if k2 = true then td σ H5 fun x4 H6 => r'' x3 x4 H6 Q else Q (.bl false) H5) else Q (.bl false) H3)
theorem pe_chain3 {op op' op'' : CmpOp} {r r' r'' : R2} (ho : OpR X (compareOp op) r) (ho' : OpR X (compareOp op') r') (ho'' : OpR X (compareOp op'') r'') (ha : PE X a ta) (hb : PE X b tb) (hc : PE X c tc) (hd : PE X d td)
    (hm : lastMarks [op, op', op''] [b, c, d] = false := by with_unfolding_all rfl) : PE X (.Compare a [op, op', op''] [b, c, d] pos) (tChain3 r r' r'' ta tb tc td) := by
  refine ⟨fun pins s σ H Q I h => ?_⟩
  refine Compare_chain (thn (ha.run pins s σ H _ I h) fun v s1 ⟨x, H1, I1, r1, q1⟩ => chain_link (thn (hb.run pins s1 σ H1 _ I1 q1) fun u s2 ⟨y, H2, I2, r2, q2⟩ =>
    thn (ho pins s2 σ H2 x y v u _ I2 r1 r2 q2) fun d s3 ⟨z, H3, I3, r3, k, e, q3⟩ => ?_)) hm
  subst e
  cases r3
  refine wpAny_truthy_bool ?_
  cases k with
  | false => exact ite_ff ⟨.bl false, H3, I3, rfl, q3⟩
  | true =>
    refine ite_tt (chain_link (thn (hc.run pins s3 σ H3 _ I3 q3) fun w' s4 ⟨z', H4, I4, r4, q4⟩ => thn (ho' pins s4 σ H4 y z' u w' _ I4 r2 r4 q4) fun d2 s5 ⟨z2, H5, I5, r5, k2, e2, q5⟩ => ?_))
    subst e2
    cases r5
    refine wpAny_truthy_bool ?_
    cases k2 with
    | false => exact ite_ff ⟨.bl false, H5, I5, rfl, q5⟩
    | true => exact ite_tt (chain_last (thn (hd.run pins s5 σ H5 _ I5 q5) fun w6 s6 ⟨z6, H6, I6, r6, q6⟩ => ho'' pins s6 σ H6 z' z6 w' w6 Q I6 r4 r6 q6))
theorem c_chain3 {r r' r'' : R2} (h : ta σ H fun x H1 => tb σ H1 fun y H2 => r x y H2 fun z H3 => ∃ k, z = .bl k ∧
  (if k = true then tc σ H3 fun x3 H4 => r' y x3 H4 fun z2 H5 => ∃ k2, z2 = .bl k2 ∧ (if k2 = true then td σ H5 fun x4 H6 => r'' x3 x4 H6 Q else Q (.bl false) H5) else Q (.bl false) H3)) : tChain3 r r' r'' ta tb tc td σ H Q := h
theorem c_chain {r r' : R2} (h : ta σ H fun x H1 => tb σ H1 fun y H2 => r x y H2 fun z H3 => ∃ k, z = .bl k ∧ (if k = true then tc σ H3 fun w' H4 => r' y w' H4 Q else Q (.bl false) H3)) : tChain r r' ta tb tc σ H Q := h
/-- x in a tuple that was just laid -/
theorem c_rInT {K : PySem.W.Frag} {n : Bool} {x : V} {p : Addr} {xs : List V} (h : H p = some (.tup xs)) (f : flatV x = true) (fs : xs.all flatV = true) (k : Q (.bl (if n then !inV x xs else inV x xs)) H) : rIn K n x (.ref p) H Q := ⟨p, xs, rfl, .inr (SqT.of h), f, fs, k⟩
end
section
variable {K : PySem.W.Frag} {σ : L2.St} {H : Hp} {Q : VK} {te : TE}
/-- a comprehension whose items are known values -/
theorem c_mapV {a : Addr} {xs : List V} {j : Nat} {vs : List Nat} {Dl : Addr} {Qd : Hp → Prop} (zs : List V) (hlen : zs.length = xs.length) (h : H a = some (.lst xs)) (hz : xs.length ≤ 100000) (fD : H Dl = none) (hw : ∀ x, wipe ((wipe σ vs).set j (some x)) vs = wipe σ vs)
    (he : ∀ (i : Nat) x y H', xs[i]? = some x → zs[i]? = some y → Same H H' → ∀ Q' : VK, (∀ H2, Same H' H2 → Q' y H2) → te ((wipe σ vs).set j (some x)) H' Q')
    (k : ∀ H2, Same H H2 → H2 Dl = some (.lst zs) → Qd H2) :
    ∃ W : Nat → Nat → Hp → Prop, (∃ m, W 0 m (upd H Dl (.lst []))) ∧ ∀ i m H, W i m H →
      ((Itl K a).stop i H ∧ Qd H) ∨ ((Itl K a).go i H ∧ ∃ Nx : Hp → Prop, (∀ H', Nx H' → ∃ m', m' < m ∧ W (i + 1) m' H') ∧ ∀ x H', (Itl K a).yld i H x H' → gName j x (wipe σ vs) H' fun σ2 H2 => wipe σ2 vs = wipe σ vs ∧ tYes σ2 H2 fun b H3 =>
        if b = true then te σ2 H3 fun y H4 => ∃ acc, H4 Dl = some (.lst acc) ∧ acc.length < sizeLine ∧ Nx (upd H4 Dl (.lst (acc ++ [y]))) else Nx H3) := by
  refine c_mapL (Rl := fun i y _ => zs[i]? = some y) h hz fD hw (fun i x H' hx e Q' hq => ?_) (fun _ _ _ _ _ h => h) (fun ys H2 e hD hl hr => ?_)
  · have hi : i < xs.length := (List.getElem?_eq_some_iff.mp hx).1
    have hy : zs[i]? = some (zs[i]'(by omega)) := List.getElem?_eq_getElem (by omega)
    exact he i x _ H' hx hy e Q' fun H2 e2 => hq _ H2 e2 fun _ _ => hy
  · have ez : ys = zs := by
      apply List.ext_getElem?
      intro i
      by_cases hi : i < ys.length
      · have h1 : ys[i]? = some ys[i] := List.getElem?_eq_getElem hi
        rw [h1, hr i _ h1]
      · rw [List.getElem?_eq_none (by omega), List.getElem?_eq_none (by omega)]
    exact k H2 e (ez ▸ hD)
end
end K99
end
/-! the walks -/
namespace K99
open PySem PySem.Spec PyProof.Rows L2 ClX
local macro_rules | `(tactic| walk_at "sz") => `(tactic| first | (simp only [List.length_append, List.length_cons, List.length_nil, List.length_map, sizeLine_eq]; omega) | fail)
local macro_rules | `(tactic| walk_at "sz") => `(tactic| first | decide | fail)
local macro_rules | `(tactic| walk_at "s1") => `(tactic| first | ((with_reducible refine' c_len ?k1 ?k2); (case k1 => walk_at "look")) | fail)
local macro_rules | `(tactic| walk_at "s1") => `(tactic| first | ((with_reducible refine' c_cat ?k1 ?k2 ?k3 ?k4); (case k1 => walk_at "look"); (case k2 => walk_at "look"); (case k3 => walk_at "sz")) | fail)
local macro_rules | `(tactic| walk_at "s1") => `(tactic| first | ((with_reducible refine' c_rI ?k1 ?k2); (case k1 => walk_at "rI")) | fail)
local macro_rules | `(tactic| walk_at "s1") => `(tactic| first | ((with_reducible refine' c_reverse ?k1 ?k2); (case k1 => walk_at "look")) | fail)
local macro_rules | `(tactic| walk_at "s1") => `(tactic| first | ((with_reducible refine' c_append ?k1 ?k2 ?k3); (case k1 => walk_at "look"); (case k2 => walk_at "sz")) | fail)
local macro_rules | `(tactic| walk_at "s1") => `(tactic| first | ((with_reducible refine' c_tyL ?k1 ?k2); (case k1 => walk_at "look")) | fail)
local macro_rules | `(tactic| walk_at "s1") => `(tactic| first | ((with_reducible refine' c_rngl ?k1 ?k2); (case k1 => exact And.intro (by omega) (by omega))) | fail)
local macro_rules | `(tactic| walk_at "s1") => `(tactic| first | ((with_reducible refine' c_lstl ?k1 ?k2); (case k1 => walk_at "look")) | fail)
local macro_rules | `(tactic| walk_at "s1") => `(tactic| first | (with_reducible refine c_gname ?_) | fail)
local macro_rules | `(tactic| walk_at "s1") => `(tactic| first | (with_reducible refine c_iList ?_) | fail)
local macro_rules | `(tactic| walk_at "s1") => `(tactic| first | (with_reducible refine c_iRng ?_) | fail)
local macro_rules | `(tactic| walk_at "s1") => `(tactic| first | ((with_reducible refine' c_dputI ?k1 ?k2 ?k3); (case k1 => walk_at "look"); (case k2 => walk_at "sz")) | fail)
local macro_rules | `(tactic| walk_at "s1") => `(tactic| first | ((with_reducible refine' c_dputS ?k1 ?k2 ?k3); (case k1 => walk_at "look"); (case k2 => walk_at "sz")) | fail)
local macro_rules | `(tactic| walk_at "s1") => `(tactic| first | ((with_reducible refine' c_dgetS ?k1 ?k2 ?k3); (case k1 => walk_at "look"); (case k2 => walk_at "dv")) | fail)
local macro_rules | `(tactic| walk_at "s1") => `(tactic| first | ((with_reducible refine' c_strI ?k1 ?k2); (case k1 => walk_at "lg")) | fail)
local macro_rules | `(tactic| walk_at "s1") => `(tactic| first | (with_reducible refine c_two ?_) | fail)
local macro_rules | `(tactic| walk_at "s1") => `(tactic| first | (with_reducible refine c_intb ?_) | fail)
local macro_rules | `(tactic| walk_at "s1") => `(tactic| first | (with_reducible refine c_int1 ?_) | fail)
local macro_rules | `(tactic| walk_at "s1") => `(tactic| first | ((with_reducible refine' c_slL ?k1 ?k2); (case k1 => walk_at "look")) | fail)
local macro_rules | `(tactic| walk_at "s1") => `(tactic| first | ((with_reducible refine' c_ixL ?k1 ?k2 ?k3); (case k1 => walk_at "look"); (case k2 => walk_at "at")) | fail)
local macro_rules | `(tactic| walk_at "s1") => `(tactic| first | ((with_reducible refine' c_ixT ?k1 ?k2 ?k3); (case k1 => walk_at "look"); (case k2 => walk_at "at")) | fail)
local macro_rules | `(tactic| walk_at "s1") => `(tactic| first | ((with_reducible show tAug _ _ _ _ _ _); refine c_aug (by rfl) ?_) | fail)
local macro_rules | `(tactic| walk_at "s1") => `(tactic| first | (with_reducible refine c_ipI ?_) | fail)
local macro_rules | `(tactic| walk_at "s1") => `(tactic| first | (with_reducible refine c_rSub ?_) | fail)
local macro_rules | `(tactic| walk_at "s1") => `(tactic| first | (with_reducible refine c_rAdd ?_) | fail)
local macro_rules | `(tactic| walk_at "s1") => `(tactic| first | (with_reducible refine c_putaug ?_) | fail)
local macro_rules | `(tactic| walk_at "s1") => `(tactic| first | (with_reducible refine c_dputU ?_) | fail)
local macro_rules | `(tactic| walk_at "s1") => `(tactic| first | (with_reducible refine c_dgetU ?_) | fail)
local macro_rules | `(tactic| walk_at "s1") => `(tactic| first | (with_reducible refine c_dnew ?_) | fail)
local macro_rules | `(tactic| walk_at "s1") => `(tactic| first | (with_reducible refine c_yes ?_) | fail)
local macro_rules | `(tactic| walk_at "s1") => `(tactic| first | (with_reducible refine c_lc ?_) | fail)
local macro_rules | `(tactic| walk_at "s1") => `(tactic| first | (with_reducible refine c_for ?_) | fail)
local macro_rules | `(tactic| walk_at "s1") => `(tactic| first | ((with_reducible show if _ = true then _ else _); first
    | (refine br_t (by first | rfl | exact decide_eq_true (by omega) | exact nd_t (by omega)) ?_)
    | (refine br_f (by first | rfl | exact decide_eq_false (by omega) | exact nd_f (by omega)) ?_)) | fail)
local macro_rules | `(tactic| walk_at "s1") => `(tactic| first | ((with_reducible refine c_RV ?_); intro H9 e9) | fail)
local macro_rules | `(tactic| walk_at "s1") => `(tactic| first | ((with_reducible refine c_RL ?_); intro p9 H9 f9 e9 h9) | fail)
local macro_rules | `(tactic| walk_at "s1") => `(tactic| first | ((with_reducible refine c_fresh2 ?_); intro x9 d9 fx9 fd9 n9) | fail)
local macro_rules | `(tactic| walk_at "s1") => `(tactic| first | ((with_reducible refine c_fresh ?_); intro p9 f9) | fail)
local macro_rules | `(tactic| walk_at "s1") => `(tactic| first | ((with_reducible show _ ≤ sizeLine ∧ _); refine And.intro (by walk_at "sz") ?_) | fail)
local macro_rules | `(tactic| walk_at "s1") => `(tactic| first | ((with_reducible refine' c_andn ?k1 ?k2); (case k1 => rfl)) | fail)
local macro_rules | `(tactic| walk_at "s1") => `(tactic| first | (with_reducible refine c_andrfl ?_) | fail)
local macro_rules | `(tactic| walk_at "s1") => `(tactic| first | (with_reducible refine c_rNe rfl ?_) | fail)
local macro_rules | `(tactic| walk_at "s1") => `(tactic| first | (with_reducible refine c_rEq rfl ?_) | fail)
local macro_rules | `(tactic| walk_at "s1") => `(tactic| first | (with_reducible refine c_brk ?_) | fail)
local macro_rules | `(tactic| walk_at "s1") => `(tactic| first | (with_reducible refine c_un ?_) | fail)
local macro_rules | `(tactic| walk_at "s1") => `(tactic| first | (with_reducible refine c_bm0 ?_) | fail)
local macro_rules | `(tactic| walk_at "s1") => `(tactic| first | (with_reducible refine c_bm ?_) | fail)
local macro_rules | `(tactic| walk_at "s1") => `(tactic| first | (with_reducible refine c_parti ?_) | fail)
local macro_rules | `(tactic| walk_at "s1") => `(tactic| first | (with_reducible refine c_part ?_) | fail)
local macro_rules | `(tactic| walk_at "s1") => `(tactic| first | (with_reducible refine c_nop ?_) | fail)
local macro_rules | `(tactic| walk_at "s1") => `(tactic| first | (with_reducible refine c_sl ?_) | fail)
local macro_rules | `(tactic| walk_at "s1") => `(tactic| first | (with_reducible refine c_ifE ?_) | fail)
local macro_rules | `(tactic| walk_at "s1") => `(tactic| first | (with_reducible refine c_notV ?_) | fail)
local macro_rules | `(tactic| walk_at "s1") => `(tactic| first | (with_reducible refine c_orV ?_) | fail)
local macro_rules | `(tactic| walk_at "s1") => `(tactic| first | (with_reducible refine c_andV ?_) | fail)
local macro_rules | `(tactic| walk_at "s1") => `(tactic| first | (with_reducible refine c_not ?_) | fail)
local macro_rules | `(tactic| walk_at "s1") => `(tactic| first | (with_reducible refine c_or ?_) | fail)
local macro_rules | `(tactic| walk_at "s1") => `(tactic| first | (with_reducible refine c_and ?_) | fail)
local macro_rules | `(tactic| walk_at "s1") => `(tactic| first | (with_reducible refine c_ini ?_) | fail)
local macro_rules | `(tactic| walk_at "s1") => `(tactic| first | (with_reducible refine c_put ?_) | fail)
local macro_rules | `(tactic| walk_at "s1") => `(tactic| first | (with_reducible refine c_next ?_) | fail)
local macro_rules | `(tactic| walk_at "s1") => `(tactic| first | (with_reducible refine c_drop ?_) | fail)
local macro_rules | `(tactic| walk_at "s1") => `(tactic| first | (with_reducible refine c_retN ?_) | fail)
local macro_rules | `(tactic| walk_at "s1") => `(tactic| first | (with_reducible refine c_ret ?_) | fail)
local macro_rules | `(tactic| walk_at "s1") => `(tactic| first | (with_reducible refine c_tup ?_) | fail)
local macro_rules | `(tactic| walk_at "s1") => `(tactic| first | (with_reducible refine c_lst ?_) | fail)
local macro_rules | `(tactic| walk_at "s1") => `(tactic| first | (with_reducible refine c_cb ?_) | fail)
local macro_rules | `(tactic| walk_at "s1") => `(tactic| first | (with_reducible refine c_prop ?_) | fail)
local macro_rules | `(tactic| walk_at "s1") => `(tactic| first | (with_reducible refine c_makeK ?_) | fail)
local macro_rules | `(tactic| walk_at "s1") => `(tactic| first | (with_reducible refine c_make ?_) | fail)
local macro_rules | `(tactic| walk_at "s1") => `(tactic| first | (with_reducible refine c_methK ?_) | fail)
local macro_rules | `(tactic| walk_at "s1") => `(tactic| first | (with_reducible refine c_meth ?_) | fail)
local macro_rules | `(tactic| walk_at "s1") => `(tactic| first | (with_reducible refine c_callN ?_) | fail)
local macro_rules | `(tactic| walk_at "s1") => `(tactic| first | (with_reducible refine c_call ?_) | fail)
local macro_rules | `(tactic| walk_at "s1") => `(tactic| first | (with_reducible refine c_bl ?_) | fail)
local macro_rules | `(tactic| walk_at "s1") => `(tactic| first | (with_reducible refine c_tB ?_) | fail)
local macro_rules | `(tactic| walk_at "s1") => `(tactic| first | (with_reducible refine c_test ?_) | fail)
local macro_rules | `(tactic| walk_at "s1") => `(tactic| first | (with_reducible refine c_if ?_) | fail)
local macro_rules | `(tactic| walk_at "s1") => `(tactic| first | ((with_reducible refine' c_get2 ?k1 ?k2); (case k1 => walk_at "look")) | fail)
local macro_rules | `(tactic| walk_at "s1") => `(tactic| first | ((with_reducible refine' c_getl3 ?k1 ?k2); (case k1 => walk_at "look")) | fail)
local macro_rules | `(tactic| walk_at "s1") => `(tactic| first | ((with_reducible refine' c_getl ?k1 ?k2); (case k1 => walk_at "look")) | fail)
local macro_rules | `(tactic| walk_at "s1") => `(tactic| first | ((with_reducible refine' c_nolk ?k1 ?k2); (case k1 => kernel_rfl)) | fail)
local macro_rules | `(tactic| walk_at "s1") => `(tactic| first | ((with_reducible refine' c_len1k ?k1 ?k2); (case k1 => kernel_rfl)) | fail)
local macro_rules | `(tactic| walk_at "s1") => `(tactic| first | ((with_reducible refine' c_listofA ?k1 ?k2); (case k1 => (refine' emp_at ?k3 ?k4; (case k3 => assumption); (case k4 => intro z9 m9; walk_at "look")))) | fail)
local macro_rules | `(tactic| walk_at "s1") => `(tactic| first | ((with_reducible refine' c_listofL ?k1 ?k2); (case k1 => walk_at "look")) | fail)
local macro_rules | `(tactic| walk_at "s1") => `(tactic| first | ((with_reducible refine c_RI3 ?_); intro a9 b9 c9 H9 fa9 fb9 fc9 n9 m9 l9 k9 i9 j9 e9 h9 ha9 hb9 hc9) | fail)
local macro_rules | `(tactic| walk_at "s1") => `(tactic| first | ((with_reducible refine c_RI2 ?_); intro a9 b9 H9 fa9 fb9 n9 m9 k9 e9 h9 ha9 hb9) | fail)
local macro_rules | `(tactic| walk_at "s1") => `(tactic| first | ((with_reducible refine c_RI1 ?_); intro a9 H9 fa9 n9 e9 h9 ha9) | fail)
local macro_rules | `(tactic| walk_at "s1") => `(tactic| first | ((with_reducible refine c_RI ?_); intro H9 e9 h9) | fail)
local macro_rules | `(tactic| walk_at "s1") => `(tactic| first | ((with_reducible refine' c_insl ?k1 ?k2); (case k1 => walk_at "look")) | fail)
local macro_rules | `(tactic| walk_at "s1") => `(tactic| first | ((with_reducible refine' c_rInT ?k1 ?k2 ?k3 ?k4); (case k1 => walk_at "look"); (case k2 => rfl); (case k3 => rfl)) | fail)
local macro_rules | `(tactic| walk_at "s1") => `(tactic| first | (with_reducible refine c_chain3 ?_) | fail)
local macro_rules | `(tactic| walk_at "s1") => `(tactic| first | (with_reducible refine c_chain ?_) | fail)
local macro_rules | `(tactic| walk_at "s1") => `(tactic| first | (with_reducible refine c_get ?_) | fail)
local macro_rules | `(tactic| walk_at "s1") => `(tactic| first | (with_reducible refine c_nil ?_) | fail)
local macro_rules | `(tactic| walk_at "s1") => `(tactic| first | (with_reducible refine c_cons ?_) | fail)
local macro_rules | `(tactic| walk_at "s1") => `(tactic| first | (with_reducible refine c_rI0 ?_) | fail)
local macro_rules | `(tactic| walk_at "s1") => `(tactic| first | (with_reducible refine c_op ?_) | fail)
local macro_rules | `(tactic| walk_at "s1") => `(tactic| first | (with_reducible refine c_c ?_) | fail)
local macro_rules | `(tactic| walk_at "s1") => `(tactic| first | ((with_reducible show tVar _ _ _ _); refine c_var (by rfl) ?_) | fail)
local macro_rules | `(tactic| walk_at "s1") => `(tactic| first | (with_reducible refine c_asg ?_) | fail)
local macro_rules | `(tactic| walk_at "s1") => `(tactic| first | (with_reducible refine c_seq ?_) | fail)
local macro_rules | `(tactic| walk_at "s") => `(tactic| (repeat walk_at "s1"))
local macro_rules | `(tactic| walk_at "same") => `(tactic| (intro b9 o9 h9; walk_at "look"))
local macro_rules | `(tactic| walk_at "fresh") => `(tactic| first | (refine fresh_of (by with_reducible assumption) (fun o9 h9 => ?_); walk_at "look") | fail)
local macro_rules | `(tactic| walk_at "fresh") => `(tactic| first | (with_reducible assumption) | fail)
local macro_rules | `(tactic| walk_at "rI") => `(tactic| first | (exact Or.inr (And.intro (by omega) (by omega))) | fail)
local macro_rules | `(tactic| walk_at "rI") => `(tactic| first | (exact Or.inl (And.intro (by omega) (by omega))) | fail)
local macro_rules | `(tactic| walk_at "rI") => `(tactic| first | (exact And.intro (by omega) (by omega)) | fail)
local macro_rules | `(tactic| walk_at "rI") => `(tactic| first | (show (0 : Int) < _; omega) | fail)
local macro_rules | `(tactic| walk_at "kp") => `(tactic| (intro b9 o9 h9 n9; walk_at "look"))
local macro_rules | `(tactic| walk_at "ins") => `(tactic| ((with_reducible refine' ins_eq ?k1 ?k2); (case k1 => walk_at "look"); (case k2 => kernel_rfl)))
local macro_rules | `(tactic| walk_at "at") => `(tactic| first | rfl | assumption | omega)
local macro_rules | `(tactic| walk_at "dv") => `(tactic| first | assumption | rfl)
local macro_rules | `(tactic| walk_at "lg") => `(tactic| first | assumption)
local macro_rules | `(tactic| walk_at "rl") => `(tactic| ((with_reducible refine' lk_eq ?k1 ?k2); (case k1 => walk_at "look"); (case k2 => first | rfl | (simp; done))))
local macro_rules | `(tactic| walk_at "emp") => `(tactic| first | (refine' emp_l ?k1 ?k2 ?k3; (case k1 => walk_at "look"); (case k2 => first | rfl | exact cut_nil _ _); (case k3 => walk_at "ne")) | fail)
local macro_rules | `(tactic| walk_at "emp") => `(tactic| first | (refine emp_t ?_; assumption) | fail)
local macro_rules | `(tactic| walk_at "nin") => `(tactic| first | ((with_reducible refine' not_cons ?k1 ?k2); (case k1 => walk_at "ne"); (case k2 => walk_at "nin")) | fail)
local macro_rules | `(tactic| walk_at "nin") => `(tactic| first | exact not_nil _ | fail)
local macro_rules | `(tactic| walk_at "nin") => `(tactic| first | (with_reducible assumption) | fail)
local macro_rules | `(tactic| walk_at "ne") => `(tactic| first | ((with_reducible refine' Ne.symm (ne_fresh ?k1 ?k2)); (case k1 => (with_reducible assumption)); (case k2 => walk_at "look")) | fail)
local macro_rules | `(tactic| walk_at "ne") => `(tactic| first | ((with_reducible refine' ne_fresh ?k1 ?k2); (case k1 => (with_reducible assumption)); (case k2 => walk_at "look")) | fail)
local macro_rules | `(tactic| walk_at "ne") => `(tactic| first | ((with_reducible refine' nin_ne ?k1 ?k2); (case k1 => (with_reducible assumption)); (case k2 => with_reducible first | exact mem0 | exact mem1 | exact mem2 | exact mem3 | exact mem4)) | fail)
local macro_rules | `(tactic| walk_at "ne") => `(tactic| first | (with_reducible refine not_mem1 ?_; with_reducible assumption) | fail)
local macro_rules | `(tactic| walk_at "ne") => `(tactic| first | ((with_reducible refine Ne.symm ?_); with_reducible assumption) | fail)
local macro_rules | `(tactic| walk_at "ne") => `(tactic| first | (with_reducible assumption) | fail)
local macro_rules | `(tactic| walk_at "look") => `(tactic| first | ((with_reducible refine' upd_app ?k1 ?k2); (case k1 => walk_at "look"); (case k2 => walk_at "ne")) | fail)
local macro_rules | `(tactic| walk_at "look") => `(tactic| first | ((with_reducible refine' new_app ?k1 ?k2); (case k1 => (with_reducible assumption)); (case k2 => walk_at "look")) | fail)
local macro_rules | `(tactic| walk_at "look") => `(tactic| first | ((with_reducible refine' kp_app ?k1 ?k2 ?k3); (case k1 => (with_reducible assumption)); (case k2 => walk_at "look"); (case k3 => walk_at "nin")) | fail)
local macro_rules | `(tactic| walk_at "look") => `(tactic| first | ((with_reducible refine' same_app ?k1 ?k2); (case k1 => (with_reducible assumption)); (case k2 => walk_at "look")) | fail)
local macro_rules | `(tactic| walk_at "look") => `(tactic| first | (with_reducible exact upd_same) | fail)
local macro_rules | `(tactic| walk_at "look") => `(tactic| first | (with_reducible assumption) | fail)
/-! part D0 -/
section
set_option maxHeartbeats 4000000
open PySem PySem.Spec PyProof.Rows L2 ClX

section
variable {P : Program} {w : World} {K : PySem.W.Frag} {mg : Str → Option Value} {base : Heap}
def spIsDue : Sp := fun vs H Q _ => ∃ n : Int, vs = [.non, .int n] ∧ Q (.bl false) H
abbrev N_is_due : List Str := ["deadline", "now"]
theorem sc_is_due : FnScope N_is_due ["deadline", "now"] (defScope s_is_due) := ⟨rfl, rfl, rfl, by decide +kernel, rfl, by decide +kernel, by decide +kernel⟩
theorem fo_is_due (W : Wld K mg) : ∃ fd, FnOk P w K mg base CX0 1 (pl_is_due.ad K) fd ["deadline", "now"] spIsDue ∧ FunD K "is_due" "is_due" (defArgs s_is_due) (defBody s_is_due) (defScope s_is_due) [] [] (pl_is_due.ad K) fd := by
  obtain ⟨fd, F⟩ := W.d_is_due
  refine ⟨fd, F.ok sc_is_due (fun vs H Q E h => ?_) (fun cdv A outer s H vs Q E hr h => ?_), F⟩
  · obtain ⟨n, rfl, k⟩ := h; rfl
  · obtain ⟨n, rfl, k⟩ := h
    have hu := hu_of hr
    refine ⟨_, PSs.nox (pss_one (ps_ret (pe_and (pe_cmpR op_notN (pv 0) pe_non (nomark _)) (pe_one (pe_cmpR op_le (pv 0) (pv 1) (nomark _)))))), ?_⟩
    walk_at "s"
    exact k
theorem ok_is_due (W : Wld K mg) : GFn P w K mg base "is_due" 1 ["deadline", "now"] spIsDue := by
  obtain ⟨fd, F1, F⟩ := fo_is_due (P := P) (w := w) (base := base) W
  exact ⟨⟨_, fd, F1, W.g_is_due, F.kp, F.bindsN fun _ _ _ _ _ _ us hl => match us, hl with | [_, _], _ => rfl⟩⟩
def spWOption : Sp := fun vs H Q _ => ∃ (k : Int) (a : Addr) (ns : List Int), vs = [.int k, .ref a] ∧ H a = some (.lst (nis ns)) ∧ ns.length ≤ 1000 ∧ RL (nis (k :: (ns.length + 2 : Int) :: ns)) H Q
abbrev N_write_option : List Str := ["kind", "body"]
theorem sc_write_option : FnScope N_write_option ["kind", "body"] (defScope s_write_option) := ⟨rfl, rfl, rfl, by decide +kernel, rfl, by decide +kernel, by decide +kernel⟩
theorem fo_write_option (W : Wld K mg) : ∃ fd, FnOk P w K mg base CX0 1 (pl_write_option.ad K) fd ["kind", "body"] spWOption ∧ FunD K "write_option" "write_option" (defArgs s_write_option) (defBody s_write_option) (defScope s_write_option) [] [] (pl_write_option.ad K) fd := by
  obtain ⟨fd, F⟩ := W.d_write_option
  refine ⟨fd, F.ok sc_write_option (fun vs H Q E h => ?_) (fun cdv A outer s H vs Q E hr h => ?_), F⟩
  · obtain ⟨k, a, ns, rfl, ha, hn, q⟩ := h; rfl
  · obtain ⟨k, a, ns, rfl, ha, hn, q⟩ := h
    have hu := hu_of hr
    refine ⟨_, PSs.nox (pss_one (ps_ret (pe_op op_cat (pe_lst (pa_cons (pv 0) (pa_cons (pe_op op_add (pe_callB call_len_seq (by rfl) W.f_len boot_len (pa_cons (pv 1) pa_nil)) pe_int) pa_nil))) (pv 1)))), ?_⟩
    walk_at "s"
    exact q _ _ (by walk_at "fresh") (by walk_at "same") (lk_eq (by walk_at "look") (by simp))
theorem ok_write_option (W : Wld K mg) : GFn P w K mg base "write_option" 1 ["kind", "body"] spWOption := by
  obtain ⟨fd, F1, F⟩ := fo_write_option (P := P) (w := w) (base := base) W
  exact ⟨⟨_, fd, F1, W.g_write_option, F.kp, F.bindsN fun _ _ _ _ _ _ us hl => match us, hl with | [_, _], _ => rfl⟩⟩
theorem u_write_option {k : Int} {a : Addr} {ns : List Int} {H : Hp} {Q : VK} (ha : H a = some (.lst (nis ns))) (hn : ns.length ≤ 1000) (q : RL (nis (k :: (ns.length + 2 : Int) :: ns)) H Q) : spWOption [.int k, .ref a] H Q E0 := ⟨k, a, ns, rfl, ha, hn, q⟩
/-- the octets of a number, the least first -/
def octs (n : Int) : Nat → List Int
  | 0 => []
  | k + 1 => (n % 256) :: octs (n / 256) k
theorem octs_len : ∀ (k : Nat) (n : Int), (octs n k).length = k
  | 0, _ => rfl
  | k + 1, n => by show (octs (n / 256) k).length + 1 = k + 1; rw [octs_len k]
theorem octs_snoc' {n z : Int} {k i : Nat} (h : octs n (i + (k - (i + 1) + 1)) = octs n i ++ octs z (k - (i + 1) + 1)) (hi : i < k) : octs n (i + 1) = octs n i ++ [z % 256] := by
  have e := congrArg (List.take (i + 1)) h
  have t : ∀ (m j : Nat) (x : Int), (octs x (m + j)).take m = octs x m := fun m => by
    induction m with
    | zero => intro j x; rfl
    | succ m ih => intro j x; rw [show m + 1 + j = (m + j) + 1 by omega]; show (x % 256) :: (octs (x / 256) (m + j)).take m = _; rw [ih]; rfl
  rw [show i + (k - (i + 1) + 1) = (i + 1) + (k - (i + 1)) by omega, t] at e
  rw [e, List.take_append, octs_len, List.take_of_length_le (by rw [octs_len]; omega), show i + 1 - i = 1 by omega]
  rfl
theorem octs_snoc {n z : Int} {k i : Nat} (h : octs n (i + (k - i)) = octs n i ++ octs z (k - i)) (hi : i < k) : nis (octs n i) ++ [V.int (z % 256)] = nis (octs n (i + 1)) := by
  have e1 : k - i = (k - (i + 1)) + 1 := by omega
  rw [e1] at h
  rw [octs_snoc' h hi]
  simp
local macro_rules | `(tactic| walk_at "sz") => `(tactic| (simp only [octs_len, List.length_map, sizeLine_eq]; omega))
def wnum (n : Int) (k : Nat) : List Int := (octs n k).reverse
def spWNumber : Sp := fun vs H Q _ => ∃ (n : Int) (k : Nat), vs = [.int n, .int k] ∧ k ≤ 8 ∧ RL (nis (wnum n k)) H Q
abbrev N_write_number : List Str := ["number", "size", "octets", "_"]
theorem sc_write_number : FnScope N_write_number ["number", "size"] (defScope s_write_number) := ⟨rfl, rfl, rfl, by decide +kernel, rfl, by decide +kernel, by decide +kernel⟩
theorem fo_write_number (W : Wld K mg) : ∃ fd, FnOk P w K mg base CX0 1 (pl_write_number.ad K) fd ["number", "size"] spWNumber ∧ FunD K "write_number" "write_number" (defArgs s_write_number) (defBody s_write_number) (defScope s_write_number) [] [] (pl_write_number.ad K) fd := by
  obtain ⟨fd, F⟩ := W.d_write_number
  refine ⟨fd, F.ok sc_write_number (fun vs H Q E h => ?_) (fun cdv A outer s H vs Q E hr h => ?_), F⟩
  · obtain ⟨n, k, rfl, hk, q⟩ := h; rfl
  · obtain ⟨n, k, rfl, hk, q⟩ := h
    have hu := hu_of hr
    refine ⟨_, PSs.nox (pss_cons (ps_set (i := 2) sc_write_number.nd rfl (Or.inl rfl) (pe_lst pa_nil))
      (pss_cons (ps_for PassesOwn.never rfl (pi_range1 rfl W.f_range (pa_cons (pv 1) pa_nil)) (pg_name (i := 3) sc_write_number.nd rfl (Or.inl rfl)) (pss_cons (ps_expr (pe_bm PySem.F.plainAttrs_list PySem.F.slot_list_append PySem.F.type_list_append mt_append (pv 2) (pa_cons (pe_op op_mod (pv 0) pe_int) pa_nil)))
      (pss_one (ps_set (i := 0) sc_write_number.nd rfl (Or.inl rfl) (pe_op op_fdiv (pv 0) pe_int)))))
      (pss_cons (ps_expr (pe_bm0 PySem.F.plainAttrs_list PySem.F.slot_list_reverse PySem.F.type_list_reverse mt_reverse (pv 2)))
      (pss_one (ps_ret (pv 2)))))), ?_⟩
    walk_at "s"
    refine c_loopR (n := k) (by omega) (fun i σ H' => ∃ (a : Addr) (z : Int) (v : Option V), σ = [some (.int z), some (.int k), some (.ref a), v] ∧ H a = none ∧ Same H H' ∧ H' a = some (.lst (nis (octs n i))) ∧ octs n (i + (k - i)) = octs n i ++ octs z (k - i)) ?_ ?_ ?_
    · exact ⟨_, n, none, rfl, by walk_at "fresh", by walk_at "same", upd_same, by simp [octs]⟩
    · rintro i σ H' hi ⟨a, z, v, rfl, fa, e, ha, ho⟩
      walk_at "s"
      refine ⟨a, z / 256, _, rfl, fa, by walk_at "same", lk_eq upd_same (octs_snoc ho hi), ?_⟩
      have e1 : k - i = (k - (i + 1)) + 1 := by omega
      rw [e1] at ho
      rw [show i + 1 + (k - (i + 1)) = i + (k - (i + 1) + 1) by omega, ho, octs_snoc' ho hi]
      simp [octs]
    · rintro σ H' ⟨a, z, v, rfl, fa, e, ha, ho⟩
      walk_at "s"
      refine q _ _ fa (by walk_at "same") (lk_eq upd_same ?_)
      simp [wnum]
theorem ok_write_number (W : Wld K mg) : GFn P w K mg base "write_number" 1 ["number", "size"] spWNumber := by
  obtain ⟨fd, F1, F⟩ := fo_write_number (P := P) (w := w) (base := base) W
  exact ⟨⟨_, fd, F1, W.g_write_number, F.kp, F.bindsN fun _ _ _ _ _ _ us hl => match us, hl with | [_, _], _ => rfl⟩⟩
end
end
/-! part D1 -/
section
set_option maxHeartbeats 4000000
open PySem PySem.Spec PyProof.Rows L2 ClX

section
variable {P : Program} {w : World} {K : PySem.W.Frag} {mg : Str → Option Value} {base : Heap}
theorem u_wo {k : Int} {a : Addr} {xs : List V} {ns : List Int} {H : Hp} {Q : VK} (ha : H a = some (.lst xs)) (e : xs = nis ns) (hn : ns.length ≤ 1000) (q : RL (nis (k :: (ns.length + 2 : Int) :: ns)) H Q) : spWOption [.int k, .ref a] H Q E0 := ⟨k, a, ns, rfl, lk_eq ha e, hn, q⟩
local macro_rules | `(tactic| walk_at "nis") => `(tactic| first
  | (with_reducible exact Eq.refl (nis _))
  | (with_reducible refine' nis_cons ?k1; (case k1 => walk_at "nis"))
  | exact nis_nil
  | (with_reducible refine' nis_app ?k1 ?k2; (case k1 => walk_at "nis"); (case k2 => walk_at "nis")))
theorem wnum_len (n : Int) (k : Nat) : (wnum n k).length = k := by rw [wnum, List.length_reverse, octs_len]
theorem u_wn {n j : Int} {H : Hp} {Q : VK} (k : Nat) (e : j = (k : Int)) (hk : k ≤ 8) (q : RL (nis (wnum n k)) H Q) : spWNumber [.int n, .int j] H Q E0 := ⟨n, k, by rw [e], hk, q⟩
local macro_rules | `(tactic| walk_at "sz") => `(tactic| (simp only [wnum_len, octs_len, List.length_map, List.length_append, List.length_cons, List.length_nil, sizeLine_eq]; omega))
local macro_rules | `(tactic| walk_at "s1") => `(tactic| first
  | (show spWOption _ _ _ _; refine' u_wo ?k1 ?k2 ?k3 ?k4; (case k1 => walk_at "look"); (case k2 => walk_at "nis"); (case k3 => walk_at "sz1"))
  | (show spWNumber _ _ _ _; first | refine u_wn 4 rfl (by decide) ?_ | refine u_wn 2 rfl (by decide) ?_))
local macro_rules | `(tactic| walk_at "sz1") => `(tactic| (simp only [wnum_len, octs_len, List.length_map, List.length_append, List.length_cons, List.length_nil]; first | decide | omega))
local macro_rules | `(tactic| walk_at "rl") => `(tactic| (with_reducible refine' lk_eq ?k1 ?k2; (case k1 => walk_at "look"); (case k2 => first | rfl | (simp; done))))
def spWPair : Sp := fun vs H Q _ => ∃ (a : Addr) (i j : Int), vs = [.ref a] ∧ H a = some (.tup [.int i, .int j]) ∧ RL (nis (wnum i 4 ++ wnum j 4)) H Q
abbrev N_write_pair : List Str := ["pair"]
theorem sc_write_pair : FnScope N_write_pair ["pair"] (defScope s_write_pair) := ⟨rfl, rfl, rfl, by decide +kernel, rfl, by decide +kernel, by decide +kernel⟩
theorem fo_write_pair (W : Wld K mg) : ∃ fd, FnOk P w K mg base CX0 2 (pl_write_pair.ad K) fd ["pair"] spWPair ∧ FunD K "write_pair" "write_pair" (defArgs s_write_pair) (defBody s_write_pair) (defScope s_write_pair) [] [] (pl_write_pair.ad K) fd := by
  obtain ⟨fd, F⟩ := W.d_write_pair
  refine ⟨fd, F.ok sc_write_pair (fun vs H Q E h => ?_) (fun cdv A outer s H vs Q E hr h => ?_), F⟩
  · obtain ⟨a, i, j, rfl, ha, q⟩ := h; rfl
  · obtain ⟨a, i, j, rfl, ha, q⟩ := h
    have hu := hu_of hr
    refine ⟨_, PSs.nox (pss_one (ps_ret (pe_op op_cat (pe_fn (ok_write_number (P := P) (K := K) W) (hr.mono (by decide)) (by rfl) (pa_cons (pe_ix ix_tup (pv 0) pe_int (fun _ _ => rfl)) (pa_cons pe_int pa_nil))) (pe_fn (ok_write_number (P := P) (K := K) W) (hr.mono (by decide)) (by rfl) (pa_cons (pe_ix ix_tup (pv 0) pe_int (fun _ _ => rfl)) (pa_cons pe_int pa_nil)))))), ?_⟩
    walk_at "s"
    exact q _ _ (by walk_at "fresh") (by walk_at "same") (by walk_at "rl")
theorem ok_write_pair (W : Wld K mg) : GFn P w K mg base "write_pair" 2 ["pair"] spWPair := by
  obtain ⟨fd, F1, F⟩ := fo_write_pair (P := P) (w := w) (base := base) W
  exact ⟨⟨_, fd, F1, W.g_write_pair, F.kp, F.bindsN fun _ _ _ _ _ _ us hl => match us, hl with | [_], _ => rfl⟩⟩
theorem u_write_pair {a : Addr} {i j : Int} {H : Hp} {Q : VK} (ha : H a = some (.tup [.int i, .int j])) (q : RL (nis (wnum i 4 ++ wnum j 4)) H Q) : spWPair [.ref a] H Q E0 := ⟨a, i, j, rfl, ha, q⟩
/-- a first segment -/
structure SegD where
  src : Int
  tgt : Int
  seq : Int
  cnt : Int
  win : Int
  mss : Int
  scl : Int
  ts : Int
abbrev SegD.r (d : SegD) (rl st dl : Addr) : RSegment := ⟨.int d.src, .int d.tgt, .int d.seq, .int d.cnt, .non, .non, .bl true, .bl false, .bl false, .bl false, .bl false, .int d.win, .int d.mss, .int d.scl, .bl true, .ref rl, .ref st, .ref dl⟩
structure SegOK (K : PySem.W.Frag) (H : Hp) (p dx rl st dl : Addr) (d : SegD) : Prop where
  hp : H p = some (.ins (He.ga K "Segment") dx (RSegment.fs (d.r rl st dl)))
  hr : H rl = some (.lst [])
  hs : H st = some (.tup [.int d.ts, .int 0])
  hd : H dl = some (.lst [])
def plainO (d : SegD) : List Int := 2 :: 4 :: wnum d.mss 2 ++ (3 :: 3 :: d.scl :: 4 :: 2 :: 8 :: 10 :: (wnum d.ts 4 ++ wnum 0 4)) ++ (253 :: 8 :: 83 :: 85 :: wnum d.cnt 4)
theorem plainO_len (d : SegD) : (plainO d).length = 27 := by simp [plainO, wnum_len]
local macro_rules | `(tactic| walk_at "s1") => `(tactic| first
  | (show spWPair _ _ _ _; refine u_write_pair (by walk_at "look") ?_))
local macro_rules | `(tactic| walk_at "rl") => `(tactic| (with_reducible refine' lk_eq ?k1 ?k2; (case k1 => walk_at "look"); (case k2 => first | rfl | (simp; done) | (simp [wnum_len, plainO]; done))))
local macro_rules | `(tactic| walk_at "sz") => `(tactic| (simp only [plainO_len, wnum_len, octs_len, List.length_map, List.length_append, List.length_cons, List.length_nil, sizeLine_eq]; omega))
def spPlain (K : PySem.W.Frag) : Sp := fun vs H Q _ => ∃ (p dx rl st dl : Addr) (d : SegD), vs = [.ref p] ∧ SegOK K H p dx rl st dl d ∧ RL (nis (plainO d)) H Q
abbrev N_plain_options : List Str := ["segment", "octets", "body"]
theorem sc_plain_options : FnScope N_plain_options ["segment"] (defScope s_plain_options) := ⟨rfl, rfl, rfl, by decide +kernel, rfl, by decide +kernel, by decide +kernel⟩
theorem fo_plain_options (W : Wld K mg) : ∃ fd, FnOk P w K mg base CX0 3 (pl_plain_options.ad K) fd ["segment"] (spPlain K) ∧ FunD K "plain_options" "plain_options" (defArgs s_plain_options) (defBody s_plain_options) (defScope s_plain_options) [] [] (pl_plain_options.ad K) fd := by
  obtain ⟨fd, F⟩ := W.d_plain_options
  refine ⟨fd, F.ok sc_plain_options (fun vs H Q E h => ?_) (fun cdv A outer s H vs Q E hr h => ?_), F⟩
  · obtain ⟨p, dx, rl, st, dl, d, rfl, ⟨z1, z2, z3, z4⟩, q⟩ := h; rfl
  · obtain ⟨p, dx, rl, st, dl, d, rfl, ⟨z1, z2, z3, z4⟩, q⟩ := h
    have hu := hu_of hr
    refine ⟨_, PSs.nox (pss_cons (ps_set (i := 1) sc_plain_options.nd rfl (Or.inl rfl) (pe_lst pa_nil))
      (pss_cons (ps_if (pt_cmpR op_notN (pe_get W.c_Segment W.n_Segment_mss RSegment.l_mss (pv 0)) pe_non (nomark _)) (pss_one (ps_set (i := 1) sc_plain_options.nd rfl (Or.inl rfl) (pe_op op_cat (pv 1) (pe_fn (ok_write_option (P := P) (K := K) W) (hr.mono (by decide)) (by rfl) (pa_cons pe_int (pa_cons (pe_fn (ok_write_number (P := P) (K := K) W) (hr.mono (by decide)) (by rfl) (pa_cons (pe_get W.c_Segment W.n_Segment_mss RSegment.l_mss (pv 0)) (pa_cons pe_int pa_nil))) pa_nil)))))) pss_nil)
      (pss_cons (ps_if (pt_cmpR op_notN (pe_get W.c_Segment W.n_Segment_scale RSegment.l_scale (pv 0)) pe_non (nomark _)) (pss_one (ps_set (i := 1) sc_plain_options.nd rfl (Or.inl rfl) (pe_op op_cat (pv 1) (pe_fn (ok_write_option (P := P) (K := K) W) (hr.mono (by decide)) (by rfl) (pa_cons pe_int (pa_cons (pe_lst (pa_cons (pe_get W.c_Segment W.n_Segment_scale RSegment.l_scale (pv 0)) pa_nil)) pa_nil)))))) pss_nil)
      (pss_cons (ps_if (pt_val (pe_get W.c_Segment W.n_Segment_ranges_known RSegment.l_ranges_known (pv 0))) (pss_one (ps_set (i := 1) sc_plain_options.nd rfl (Or.inl rfl) (pe_op op_cat (pv 1) (pe_fn (ok_write_option (P := P) (K := K) W) (hr.mono (by decide)) (by rfl) (pa_cons pe_int (pa_cons (pe_lst pa_nil) pa_nil)))))) pss_nil)
      (pss_cons (ps_if (pt_cmpR op_notN (pe_get W.c_Segment W.n_Segment_stamp RSegment.l_stamp (pv 0)) pe_non (nomark _)) (pss_one (ps_set (i := 1) sc_plain_options.nd rfl (Or.inl rfl) (pe_op op_cat (pv 1) (pe_fn (ok_write_option (P := P) (K := K) W) (hr.mono (by decide)) (by rfl) (pa_cons pe_int (pa_cons (pe_fn (ok_write_pair (P := P) (K := K) W) (hr.mono (by decide)) (by rfl) (pa_cons (pe_get W.c_Segment W.n_Segment_stamp RSegment.l_stamp (pv 0)) pa_nil)) pa_nil)))))) pss_nil)
      (pss_cons (ps_set (i := 2) sc_plain_options.nd rfl (Or.inl rfl) (pe_op op_cat (pe_lst (pa_cons pe_int (pa_cons pe_int pa_nil))) (pe_fn (ok_write_number (P := P) (K := K) W) (hr.mono (by decide)) (by rfl) (pa_cons (pe_get W.c_Segment W.n_Segment_count RSegment.l_count_ (pv 0)) (pa_cons pe_int pa_nil)))))
      (pss_cons (ps_if (pt_cmpR op_notN (pe_get W.c_Segment W.n_Segment_echo RSegment.l_echo (pv 0)) pe_non (nomark _)) (pss_one (ps_set (i := 2) sc_plain_options.nd rfl (Or.inl rfl) (pe_op op_cat (pv 2) (pe_fn (ok_write_number (P := P) (K := K) W) (hr.mono (by decide)) (by rfl) (pa_cons (pe_get W.c_Segment W.n_Segment_echo RSegment.l_echo (pv 0)) (pa_cons pe_int pa_nil)))))) pss_nil)
      (pss_one (ps_ret (pe_op op_cat (pv 1) (pe_fn (ok_write_option (P := P) (K := K) W) (hr.mono (by decide)) (by rfl) (pa_cons pe_int (pa_cons (pv 2) pa_nil))))))))))))), ?_⟩
    walk_at "s"
    exact q _ _ (by walk_at "fresh") (by walk_at "same") (by walk_at "rl")
theorem ok_plain_options (W : Wld K mg) : GFn P w K mg base "plain_options" 3 ["segment"] (spPlain K) := by
  obtain ⟨fd, F1, F⟩ := fo_plain_options (P := P) (w := w) (base := base) W
  exact ⟨⟨_, fd, F1, W.g_plain_options, F.kp, F.bindsN fun _ _ _ _ _ _ us hl => match us, hl with | [_], _ => rfl⟩⟩
theorem u_plain {p dx rl st dl : Addr} {d : SegD} {H : Hp} {Q : VK} (h : SegOK K H p dx rl st dl d) (q : RL (nis (plainO d)) H Q) : spPlain K [.ref p] H Q E0 := ⟨p, dx, rl, st, dl, d, rfl, h, q⟩
local macro_rules | `(tactic| walk_at "seg") => `(tactic| (refine' SegOK.mk ?k1 ?k2 ?k3 ?k4; (case k1 => walk_at "look"); (case k2 => walk_at "look"); (case k3 => walk_at "look"); (case k4 => walk_at "look")))
local macro_rules | `(tactic| walk_at "s1") => `(tactic| first
  | (show spPlain _ _ _ _ _; refine' u_plain ?k1 ?k2; (case k1 => walk_at "seg")))
def spFitting (K : PySem.W.Frag) : Sp := fun vs H Q _ => ∃ (p dx rl st dl : Addr) (d : SegD), vs = [.ref p] ∧ SegOK K H p dx rl st dl d ∧ RL [] H Q
abbrev N_fitting_ranges : List Str := ["segment", "room"]
theorem sc_fitting_ranges : FnScope N_fitting_ranges ["segment"] (defScope s_fitting_ranges) := ⟨rfl, rfl, rfl, by decide +kernel, rfl, by decide +kernel, by decide +kernel⟩
theorem fo_fitting_ranges (W : Wld K mg) : ∃ fd, FnOk P w K mg base CX0 4 (pl_fitting_ranges.ad K) fd ["segment"] (spFitting K) ∧ FunD K "fitting_ranges" "fitting_ranges" (defArgs s_fitting_ranges) (defBody s_fitting_ranges) (defScope s_fitting_ranges) [] [] (pl_fitting_ranges.ad K) fd := by
  obtain ⟨fd, F⟩ := W.d_fitting_ranges
  refine ⟨fd, F.ok sc_fitting_ranges (fun vs H Q E h => ?_) (fun cdv A outer s H vs Q E hr h => ?_), F⟩
  · obtain ⟨p, dx, rl, st, dl, d, rfl, ⟨z1, z2, z3, z4⟩, q⟩ := h; rfl
  · obtain ⟨p, dx, rl, st, dl, d, rfl, ⟨z1, z2, z3, z4⟩, q⟩ := h
    have hu := hu_of hr
    refine ⟨_, PSs.nox (pss_cons (ps_set (i := 1) sc_fitting_ranges.nd rfl (Or.inl rfl) (pe_op op_sub (pe_op op_sub (pe_gint rfl W.i_MOST) pe_int) (pe_callB call_len_seq (by rfl) W.f_len boot_len (pa_cons (pe_fn (ok_plain_options (P := P) (K := K) W) (hr.mono (by decide)) (by rfl) (pa_cons (pv 0) pa_nil)) pa_nil))))
      (pss_one (ps_ret (pe_slice sl_list (pe_get W.c_Segment W.n_Segment_ranges RSegment.l_ranges (pv 0)) po_none (po_some (pe_op op_fdiv (pv 1) pe_int)))))), ?_⟩
    walk_at "s"
    exact q _ _ (by walk_at "fresh") (by walk_at "same") (lk_eq (by walk_at "look") (cut_nil _ _))
theorem ok_fitting_ranges (W : Wld K mg) : GFn P w K mg base "fitting_ranges" 4 ["segment"] (spFitting K) := by
  obtain ⟨fd, F1, F⟩ := fo_fitting_ranges (P := P) (w := w) (base := base) W
  exact ⟨⟨_, fd, F1, W.g_fitting_ranges, F.kp, F.bindsN fun _ _ _ _ _ _ us hl => match us, hl with | [_], _ => rfl⟩⟩
theorem u_fitting {p dx rl st dl : Addr} {d : SegD} {H : Hp} {Q : VK} (h : SegOK K H p dx rl st dl d) (q : RL [] H Q) : spFitting K [.ref p] H Q E0 := ⟨p, dx, rl, st, dl, d, rfl, h, q⟩
local macro_rules | `(tactic| walk_at "s1") => `(tactic| first
  | (show spFitting _ _ _ _ _; refine' u_fitting ?k1 ?k2; (case k1 => walk_at "seg")))
def spWOpts (K : PySem.W.Frag) : Sp := fun vs H Q _ => ∃ (p dx rl st dl : Addr) (d : SegD), vs = [.ref p] ∧ SegOK K H p dx rl st dl d ∧ RL (nis (plainO d ++ [0])) H Q
abbrev N_write_options_options : List Str := ["segment", "octets", "ranges", "body", "pair"]
theorem sc_write_options_options : FnScope N_write_options_options ["segment"] (defScope s_write_options_options) := ⟨rfl, rfl, rfl, by decide +kernel, rfl, by decide +kernel, by decide +kernel⟩
theorem fo_write_options_options (W : Wld K mg) : ∃ fd, FnOk P w K mg base CX0 5 (pl_write_options_options.ad K) fd ["segment"] (spWOpts K) ∧ FunD K "write_options" "write_options" (defArgs s_write_options_options) (defBody s_write_options_options) (defScope s_write_options_options) [] [] (pl_write_options_options.ad K) fd := by
  obtain ⟨fd, F⟩ := W.d_write_options_options
  refine ⟨fd, F.ok sc_write_options_options (fun vs H Q E h => ?_) (fun cdv A outer s H vs Q E hr h => ?_), F⟩
  · obtain ⟨p, dx, rl, st, dl, d, rfl, ⟨z1, z2, z3, z4⟩, q⟩ := h; rfl
  · obtain ⟨p, dx, rl, st, dl, d, rfl, ⟨z1, z2, z3, z4⟩, q⟩ := h
    have hu := hu_of hr
    refine ⟨_, PSs.nox (pss_cons (ps_set (i := 1) sc_write_options_options.nd rfl (Or.inl rfl) (pe_fn (ok_plain_options (P := P) (K := K) W) (hr.mono (by decide)) (by rfl) (pa_cons (pv 0) pa_nil)))
      (pss_cons (ps_set (i := 2) sc_write_options_options.nd rfl (Or.inl rfl) (pe_fn (ok_fitting_ranges (P := P) (K := K) W) (hr.mono (by decide)) (by rfl) (pa_cons (pv 0) pa_nil)))
      (pss_cons (ps_if (pt_cmpR op_gt (pe_callB call_len_seq (by rfl) W.f_len boot_len (pa_cons (pv 2) pa_nil)) pe_int (nomark _)) (pss_cons (ps_set (i := 3) sc_write_options_options.nd rfl (Or.inl rfl) (pe_lst pa_nil))
      (pss_cons (ps_for PassesOwn.never rfl (pi_list (pv 2)) (pg_name (i := 4) sc_write_options_options.nd rfl (Or.inl rfl)) (pss_one (ps_set (i := 3) sc_write_options_options.nd rfl (Or.inl rfl) (pe_op op_cat (pv 3) (pe_fn (ok_write_pair (P := P) (K := K) W) (hr.mono (by decide)) (by rfl) (pa_cons (pv 4) pa_nil))))))
      (pss_one (ps_set (i := 1) sc_write_options_options.nd rfl (Or.inl rfl) (pe_op op_cat (pv 1) (pe_fn (ok_write_option (P := P) (K := K) W) (hr.mono (by decide)) (by rfl) (pa_cons pe_int (pa_cons (pv 3) pa_nil)))))))) pss_nil)
      (pss_cons (ps_while PassesOwn.never (pt_cmpR op_ne (pe_op op_mod (pe_callB call_len_seq (by rfl) W.f_len boot_len (pa_cons (pv 1) pa_nil)) pe_int) pe_int (nomark _)) (pss_one (ps_expr (pe_bm PySem.F.plainAttrs_list PySem.F.slot_list_append PySem.F.type_list_append mt_append (pv 1) (pa_cons pe_int pa_nil)))))
      (pss_one (ps_ret (pv 1))))))), ?_⟩
    walk_at "s"
    refine c_while1 ?_
    walk_at "s"
    refine br_t (by simp [plainO_len]) ⟨_, fun σ' H' h => h, ?_⟩
    walk_at "s"
    refine br_f (by simp [plainO_len]) ?_
    walk_at "s"
    exact q _ _ (by walk_at "fresh") (by walk_at "same") (by walk_at "rl")
theorem ok_write_options_options (W : Wld K mg) : GFn P w K mg base "write_options_options" 5 ["segment"] (spWOpts K) := by
  obtain ⟨fd, F1, F⟩ := fo_write_options_options (P := P) (w := w) (base := base) W
  exact ⟨⟨_, fd, F1, W.g_write_options_options, F.kp, F.bindsN fun _ _ _ _ _ _ us hl => match us, hl with | [_], _ => rfl⟩⟩
theorem u_wopts {p dx rl st dl : Addr} {d : SegD} {H : Hp} {Q : VK} (h : SegOK K H p dx rl st dl d) (q : RL (nis (plainO d ++ [0])) H Q) : spWOpts K [.ref p] H Q E0 := ⟨p, dx, rl, st, dl, d, rfl, h, q⟩
def spFlags (K : PySem.W.Frag) : Sp := fun vs H Q _ => ∃ (p dx rl st dl : Addr) (d : SegD), vs = [.ref p] ∧ SegOK K H p dx rl st dl d ∧ Q (.int 2) H
abbrev N_flags_of : List Str := ["segment", "flags"]
theorem sc_flags_of : FnScope N_flags_of ["segment"] (defScope s_flags_of) := ⟨rfl, rfl, rfl, by decide +kernel, rfl, by decide +kernel, by decide +kernel⟩
theorem fo_flags_of (W : Wld K mg) : ∃ fd, FnOk P w K mg base CX0 1 (pl_flags_of.ad K) fd ["segment"] (spFlags K) ∧ FunD K "flags_of" "flags_of" (defArgs s_flags_of) (defBody s_flags_of) (defScope s_flags_of) [] [] (pl_flags_of.ad K) fd := by
  obtain ⟨fd, F⟩ := W.d_flags_of
  refine ⟨fd, F.ok sc_flags_of (fun vs H Q E h => ?_) (fun cdv A outer s H vs Q E hr h => ?_), F⟩
  · obtain ⟨p, dx, rl, st, dl, d, rfl, ⟨z1, z2, z3, z4⟩, q⟩ := h; rfl
  · obtain ⟨p, dx, rl, st, dl, d, rfl, ⟨z1, z2, z3, z4⟩, q⟩ := h
    have hu := hu_of hr
    refine ⟨_, PSs.nox (pss_cons (ps_set (i := 1) sc_flags_of.nd rfl (Or.inl rfl) (pe_op op_add (pe_op op_add (pe_op op_mul pe_int (pe_callTy call_int1 (by rfl) W.f_int bt_int (pa_cons (pe_get W.c_Segment W.n_Segment_cut RSegment.l_cut (pv 0)) pa_nil))) (pe_op op_mul pe_int (pe_callTy call_int1 (by rfl) W.f_int bt_int (pa_cons (pe_get W.c_Segment W.n_Segment_marked RSegment.l_marked (pv 0)) pa_nil)))) (pe_op op_mul pe_int (pe_callTy call_int1 (by rfl) W.f_int bt_int (pa_cons (pe_cmpR op_notN (pe_get W.c_Segment W.n_Segment_ack RSegment.l_ack (pv 0)) pe_non (nomark _)) pa_nil)))))
      (pss_cons (ps_set (i := 1) sc_flags_of.nd rfl (Or.inl rfl) (pe_op op_add (pe_op op_add (pv 1) (pe_op op_mul pe_int (pe_callTy call_int1 (by rfl) W.f_int bt_int (pa_cons (pe_cmpR op_gt (pe_callB call_len_seq (by rfl) W.f_len boot_len (pa_cons (pe_get W.c_Segment W.n_Segment_data RSegment.l_data (pv 0)) pa_nil)) pe_int (nomark _)) pa_nil)))) (pe_op op_mul pe_int (pe_callTy call_int1 (by rfl) W.f_int bt_int (pa_cons (pe_get W.c_Segment W.n_Segment_reset RSegment.l_reset (pv 0)) pa_nil)))))
      (pss_one (ps_ret (pe_op op_add (pe_op op_add (pv 1) (pe_op op_mul pe_int (pe_callTy call_int1 (by rfl) W.f_int bt_int (pa_cons (pe_get W.c_Segment W.n_Segment_syn RSegment.l_syn (pv 0)) pa_nil)))) (pe_callTy call_int1 (by rfl) W.f_int bt_int (pa_cons (pe_get W.c_Segment W.n_Segment_fin RSegment.l_fin (pv 0)) pa_nil))))))), ?_⟩
    walk_at "s"
    exact q
theorem ok_flags_of (W : Wld K mg) : GFn P w K mg base "flags_of" 1 ["segment"] (spFlags K) := by
  obtain ⟨fd, F1, F⟩ := fo_flags_of (P := P) (w := w) (base := base) W
  exact ⟨⟨_, fd, F1, W.g_flags_of, F.kp, F.bindsN fun _ _ _ _ _ _ us hl => match us, hl with | [_], _ => rfl⟩⟩
theorem u_flags {p dx rl st dl : Addr} {d : SegD} {H : Hp} {Q : VK} (h : SegOK K H p dx rl st dl d) (q : Q (.int 2) H) : spFlags K [.ref p] H Q E0 := ⟨p, dx, rl, st, dl, d, rfl, h, q⟩
end
end
/-! part D2 -/
section
set_option maxHeartbeats 4000000
open PySem PySem.Spec PyProof.Rows L2 ClX

section
variable {P : Program} {w : World} {K : PySem.W.Frag} {mg : Str → Option Value} {base : Heap}
local macro_rules | `(tactic| walk_at "nis") => `(tactic| first
  | (with_reducible exact Eq.refl (nis _))
  | (with_reducible refine' nis_cons ?k1; (case k1 => walk_at "nis"))
  | exact nis_nil
  | (with_reducible refine' nis_app ?k1 ?k2; (case k1 => walk_at "nis"); (case k2 => walk_at "nis")))
local macro_rules | `(tactic| walk_at "sz") => `(tactic| (simp only [wnum_len, octs_len, List.length_map, List.length_append, List.length_cons, List.length_nil, sizeLine_eq]; omega))
local macro_rules | `(tactic| walk_at "s1") => `(tactic| first
  | (show spWOption _ _ _ _; refine' u_wo ?k1 ?k2 ?k3 ?k4; (case k1 => walk_at "look"); (case k2 => walk_at "nis"); (case k3 => walk_at "sz1"))
  | (show spWNumber _ _ _ _; first | refine u_wn 4 rfl (by decide) ?_ | refine u_wn 2 rfl (by decide) ?_))
local macro_rules | `(tactic| walk_at "sz1") => `(tactic| (simp only [wnum_len, octs_len, List.length_map, List.length_append, List.length_cons, List.length_nil]; first | decide | omega))
local macro_rules | `(tactic| walk_at "rl") => `(tactic| (with_reducible refine' lk_eq ?k1 ?k2; (case k1 => walk_at "look"); (case k2 => first | rfl | (simp; done))))
local macro_rules | `(tactic| walk_at "s1") => `(tactic| first
  | (show spWPair _ _ _ _; refine u_write_pair (by walk_at "look") ?_))
local macro_rules | `(tactic| walk_at "rl") => `(tactic| (with_reducible refine' lk_eq ?k1 ?k2; (case k1 => walk_at "look"); (case k2 => first | rfl | (simp; done) | (simp [wnum_len, plainO]; done))))
local macro_rules | `(tactic| walk_at "sz") => `(tactic| (simp only [plainO_len, wnum_len, octs_len, List.length_map, List.length_append, List.length_cons, List.length_nil, sizeLine_eq]; omega))
local macro_rules | `(tactic| walk_at "seg") => `(tactic| (refine' SegOK.mk ?k1 ?k2 ?k3 ?k4; (case k1 => walk_at "look"); (case k2 => walk_at "look"); (case k3 => walk_at "look"); (case k4 => walk_at "look")))
local macro_rules | `(tactic| walk_at "s1") => `(tactic| first
  | (show spPlain _ _ _ _ _; refine' u_plain ?k1 ?k2; (case k1 => walk_at "seg")))
local macro_rules | `(tactic| walk_at "s1") => `(tactic| first
  | (show spFitting _ _ _ _ _; refine' u_fitting ?k1 ?k2; (case k1 => walk_at "seg")))
local macro_rules | `(tactic| walk_at "s1") => `(tactic| first
  | (with_reducible refine c_iEnum ?_)
  | ((with_reducible refine' c_enl ?k1 ?k2); (case k1 => walk_at "look"))
  | ((with_reducible refine' c_gpair ?k1 ?k2); (case k1 => walk_at "look")))
/-- the sum over the first octets -/
def osT (ns : List Int) : Nat → Int
  | 0 => 0
  | i + 1 => osT ns i + (if (i : Int) % 2 = 0 then 256 * ns.getD i 0 else ns.getD i 0)
def osum (s t : Int) (ns : List Int) : Int := s + t + 6 + ns.length + osT ns ns.length
def csum (s t : Int) (ns : List Int) : Int := if osum s t ns % 65535 = 0 then 0 else 65535 - osum s t ns % 65535
def spOSum : Sp := fun vs H Q _ => ∃ (s t : Int) (a : Addr) (ns : List Int), vs = [.int s, .int t, .ref a] ∧ H a = some (.lst (nis ns)) ∧ RV (.int (osum s t ns)) H Q
abbrev N_octet_sum : List Str := ["sender", "target", "octets", "result", "at", "octet"]
theorem sc_octet_sum : FnScope N_octet_sum ["sender", "target", "octets"] (defScope s_octet_sum) := ⟨rfl, rfl, rfl, by decide +kernel, rfl, by decide +kernel, by decide +kernel⟩
theorem fo_octet_sum (W : Wld K mg) : ∃ fd, FnOk P w K mg base CX0 1 (pl_octet_sum.ad K) fd ["sender", "target", "octets"] spOSum ∧ FunD K "octet_sum" "octet_sum" (defArgs s_octet_sum) (defBody s_octet_sum) (defScope s_octet_sum) [] [] (pl_octet_sum.ad K) fd := by
  obtain ⟨fd, F⟩ := W.d_octet_sum
  refine ⟨fd, F.ok sc_octet_sum (fun vs H Q E h => ?_) (fun cdv A outer s H vs Q E hr h => ?_), F⟩
  · obtain ⟨x, t, a, ns, rfl, ha, q⟩ := h; rfl
  · obtain ⟨x, t, a, ns, rfl, ha, q⟩ := h
    have hu := hu_of hr
    refine ⟨_, PSs.nox (pss_cons (ps_set (i := 3) sc_octet_sum.nd rfl (Or.inl rfl) (pe_op op_add (pe_op op_add (pe_op op_add (pv 0) (pv 1)) pe_int) (pe_callB call_len_seq (by rfl) W.f_len boot_len (pa_cons (pv 2) pa_nil))))
      (pss_cons (ps_for PassesOwn.never rfl (pi_enum (by rfl) W.f_enumerate (pa_cons (pv 2) pa_nil)) (pg_tup (n := 2) rfl (pgs_cons (pg_name (i := 4) sc_octet_sum.nd rfl (Or.inl rfl)) (pgs_cons (pg_name (i := 5) sc_octet_sum.nd rfl (Or.inl rfl)) pgs_nil))) (pss_one (ps_if (pt_cmpR op_eq (pe_op op_mod (pv 4) pe_int) pe_int (nomark _)) (pss_one (ps_set (i := 3) sc_octet_sum.nd rfl (Or.inl rfl) (pe_op op_add (pv 3) (pe_op op_mul pe_int (pv 5))))) (pss_one (ps_set (i := 3) sc_octet_sum.nd rfl (Or.inl rfl) (pe_op op_add (pv 3) (pv 5)))))))
      (pss_one (ps_ret (pv 3))))), ?_⟩
    walk_at "s"
    refine c_loopE (xs := nis ns) (fun i σ H' => ∃ u v, σ = [some (.int x), some (.int t), some (.ref a), some (.int (x + t + 6 + ns.length + osT ns i)), u, v] ∧ Same H H') ?_ ?_ ?_ ?_
    · exact ⟨none, none, by simp [osT, L2.start], fun _ _ h => h⟩
    · rintro i σ H' ⟨u, v, rfl, e⟩
      walk_at "look"
    · rintro i y T σ H' hx ⟨u, v, rfl, e⟩ fT
      obtain ⟨n, rfl, hn⟩ := nis_at hx
      walk_at "s"
      have e3 : osT ns (i + 1) = osT ns i + (if (i : Int) % 2 = 0 then 256 * n else n) := by simp [osT, hn]
      refine br_2 (fun e2 => ?_) (fun e2 => ?_)
      · have e4 : (i : Int) % 2 = 0 := by simpa using e2
        walk_at "s"
        rw [if_pos e4] at e3
        refine ⟨some (.int i), some (.int n), ?_, by walk_at "same"⟩
        rw [e3, ← Int.add_assoc]
        rfl
      · have e4 : ¬ (i : Int) % 2 = 0 := by simpa using e2
        walk_at "s"
        rw [if_neg e4] at e3
        refine ⟨some (.int i), some (.int n), ?_, by walk_at "same"⟩
        rw [e3, ← Int.add_assoc]
        rfl
    · rintro σ H' ⟨u, v, rfl, e⟩
      walk_at "s"
      refine lk_v (q H' e) ?_
      simp [osum]
theorem ok_octet_sum (W : Wld K mg) : GFn P w K mg base "octet_sum" 1 ["sender", "target", "octets"] spOSum := by
  obtain ⟨fd, F1, F⟩ := fo_octet_sum (P := P) (w := w) (base := base) W
  exact ⟨⟨_, fd, F1, W.g_octet_sum, F.kp, F.bindsN fun _ _ _ _ _ _ us hl => match us, hl with | [_, _, _], _ => rfl⟩⟩
theorem u_osum {x t : Int} {a : Addr} {ns : List Int} {H : Hp} {Q : VK} (ha : H a = some (.lst (nis ns))) (q : RV (.int (osum x t ns)) H Q) : spOSum [.int x, .int t, .ref a] H Q E0 := ⟨x, t, a, ns, rfl, ha, q⟩
def spCSum : Sp := fun vs H Q _ => ∃ (s t : Int) (a : Addr) (ns : List Int), vs = [.int s, .int t, .ref a] ∧ H a = some (.lst (nis ns)) ∧ RV (.int (csum s t ns)) H Q
local macro_rules | `(tactic| walk_at "s1") => `(tactic| first
  | (show spOSum _ _ _ _; refine' u_osum ?k1 ?k2; (case k1 => walk_at "look")))
abbrev N_checksum : List Str := ["sender", "target", "octets", "remainder"]
theorem sc_checksum : FnScope N_checksum ["sender", "target", "octets"] (defScope s_checksum) := ⟨rfl, rfl, rfl, by decide +kernel, rfl, by decide +kernel, by decide +kernel⟩
theorem fo_checksum (W : Wld K mg) : ∃ fd, FnOk P w K mg base CX0 2 (pl_checksum.ad K) fd ["sender", "target", "octets"] spCSum ∧ FunD K "checksum" "checksum" (defArgs s_checksum) (defBody s_checksum) (defScope s_checksum) [] [] (pl_checksum.ad K) fd := by
  obtain ⟨fd, F⟩ := W.d_checksum
  refine ⟨fd, F.ok sc_checksum (fun vs H Q E h => ?_) (fun cdv A outer s H vs Q E hr h => ?_), F⟩
  · obtain ⟨x, t, a, ns, rfl, ha, q⟩ := h; rfl
  · obtain ⟨x, t, a, ns, rfl, ha, q⟩ := h
    have hu := hu_of hr
    refine ⟨_, PSs.nox (pss_cons (ps_set (i := 3) sc_checksum.nd rfl (Or.inl rfl) (pe_op op_mod (pe_fn (ok_octet_sum (P := P) (K := K) W) (hr.mono (by decide)) (by rfl) (pa_cons (pv 0) (pa_cons (pv 1) (pa_cons (pv 2) pa_nil)))) (pe_gint rfl W.i_MODULUS)))
      (pss_cons (ps_if (pt_cmpR op_eq (pv 3) pe_int (nomark _)) (pss_one (ps_ret pe_int)) pss_nil)
      (pss_one (ps_ret (pe_op op_sub (pe_gint rfl W.i_MODULUS) (pv 3)))))), ?_⟩
    walk_at "s"
    refine br_2 (fun e2 => ?_) (fun e2 => ?_)
    · have e4 : osum x t ns % 65535 = 0 := by simpa using e2
      walk_at "s"
      refine lk_v (q _ (by walk_at "same")) ?_
      rw [csum, if_pos e4]
    · have e4 : ¬ osum x t ns % 65535 = 0 := by simpa using e2
      walk_at "s"
      refine lk_v (q _ (by walk_at "same")) ?_
      rw [csum, if_neg e4]
theorem ok_checksum (W : Wld K mg) : GFn P w K mg base "checksum" 2 ["sender", "target", "octets"] spCSum := by
  obtain ⟨fd, F1, F⟩ := fo_checksum (P := P) (w := w) (base := base) W
  exact ⟨⟨_, fd, F1, W.g_checksum, F.kp, F.bindsN fun _ _ _ _ _ _ us hl => match us, hl with | [_, _, _], _ => rfl⟩⟩
theorem u_csum {x t : Int} {a : Addr} {xs : List V} {ns : List Int} {H : Hp} {Q : VK} (ha : H a = some (.lst xs)) (e : xs = nis ns) (q : RV (.int (csum x t ns)) H Q) : spCSum [.int x, .int t, .ref a] H Q E0 := ⟨x, t, a, ns, rfl, lk_eq ha e, q⟩
def spWrap : Sp := fun vs H Q _ => ∃ s t : Int, vs = [.int s, .int t] ∧ Q (.int ((s + t) % 4294967296)) H
abbrev N_wrap : List Str := ["first", "offset"]
theorem sc_wrap : FnScope N_wrap ["first", "offset"] (defScope s_wrap) := ⟨rfl, rfl, rfl, by decide +kernel, rfl, by decide +kernel, by decide +kernel⟩
theorem fo_wrap (W : Wld K mg) : ∃ fd, FnOk P w K mg base CX0 1 (pl_wrap.ad K) fd ["first", "offset"] spWrap ∧ FunD K "wrap" "wrap" (defArgs s_wrap) (defBody s_wrap) (defScope s_wrap) [] [] (pl_wrap.ad K) fd := by
  obtain ⟨fd, F⟩ := W.d_wrap
  refine ⟨fd, F.ok sc_wrap (fun vs H Q E h => ?_) (fun cdv A outer s H vs Q E hr h => ?_), F⟩
  · obtain ⟨x, t, rfl, q⟩ := h; rfl
  · obtain ⟨x, t, rfl, q⟩ := h
    have hu := hu_of hr
    refine ⟨_, PSs.nox (pss_one (ps_ret (pe_op op_mod (pe_op op_add (pv 0) (pv 1)) (pe_gint rfl W.i_WRAP)))), ?_⟩
    walk_at "s"
    exact q
theorem ok_wrap (W : Wld K mg) : GFn P w K mg base "wrap" 1 ["first", "offset"] spWrap := by
  obtain ⟨fd, F1, F⟩ := fo_wrap (P := P) (w := w) (base := base) W
  exact ⟨⟨_, fd, F1, W.g_wrap, F.kp, F.bindsN fun _ _ _ _ _ _ us hl => match us, hl with | [_, _], _ => rfl⟩⟩
theorem u_wrap {x t : Int} {H : Hp} {Q : VK} (q : Q (.int ((x + t) % 4294967296)) H) : spWrap [.int x, .int t] H Q E0 := ⟨x, t, rfl, q⟩
def hdrO (d : SegD) : List Int := wnum d.src 2 ++ wnum d.tgt 2 ++ wnum d.seq 4 ++ wnum 0 4 ++ [192, 2] ++ wnum d.win 2 ++ [0, 0, 0, 0] ++ (plainO d ++ [0])
def enc (x t : Int) (d : SegD) : List Int := (hdrO d).take 16 ++ wnum (csum x t (hdrO d)) 2 ++ (hdrO d).drop 18
theorem hdrO_len (d : SegD) : (hdrO d).length = 48 := by simp [hdrO, plainO_len, wnum_len]
theorem enc_len (x t : Int) (d : SegD) : (enc x t d).length = 48 := by simp [enc, hdrO_len, wnum_len]
local macro_rules | `(tactic| walk_at "sz") => `(tactic| (simp only [cut_hi (i := 16) _ 16 rfl, cut_lo (i := 18) _ 18 rfl, List.length_take, List.length_drop, plainO_len, hdrO_len, wnum_len, octs_len, List.length_map, List.length_append, List.length_cons, List.length_nil, sizeLine_eq]; omega))
local macro_rules | `(tactic| walk_at "s1") => `(tactic| first
  | (show spCSum _ _ _ _; refine' u_csum ?k1 ?k2 ?k3; (case k1 => walk_at "look"); (case k2 => walk_at "nis"))
  | (show spWrap _ _ _ _; refine u_wrap ?_)
  | (show spWOpts _ _ _ _ _; refine' u_wopts ?k1 ?k2; (case k1 => walk_at "seg"))
  | (show spFlags _ _ _ _ _; refine' u_flags ?k1 ?k2; (case k1 => walk_at "seg")))
def spEncode (K : PySem.W.Frag) : Sp := fun vs H Q _ => ∃ (x t : Int) (p dx rl st dl : Addr) (d : SegD), vs = [.int x, .int t, .ref p] ∧ SegOK K H p dx rl st dl d ∧ RL (nis (enc x t d)) H Q
abbrev N_encode : List Str := ["sender", "target", "segment", "options", "number", "octets"]
theorem sc_encode : FnScope N_encode ["sender", "target", "segment"] (defScope s_encode) := ⟨rfl, rfl, rfl, by decide +kernel, rfl, by decide +kernel, by decide +kernel⟩
theorem fo_encode (W : Wld K mg) : ∃ fd, FnOk P w K mg base CX0 6 (pl_encode.ad K) fd ["sender", "target", "segment"] (spEncode K) ∧ FunD K "encode" "encode" (defArgs s_encode) (defBody s_encode) (defScope s_encode) [] [] (pl_encode.ad K) fd := by
  obtain ⟨fd, F⟩ := W.d_encode
  refine ⟨fd, F.ok sc_encode (fun vs H Q E h => ?_) (fun cdv A outer s H vs Q E hr h => ?_), F⟩
  · obtain ⟨x, t, p, dx, rl, st, dl, d, rfl, ⟨z1, z2, z3, z4⟩, q⟩ := h; rfl
  · obtain ⟨x, t, p, dx, rl, st, dl, d, rfl, ⟨z1, z2, z3, z4⟩, q⟩ := h
    have hu := hu_of hr
    refine ⟨_, PSs.nox (pss_cons (ps_set (i := 3) sc_encode.nd rfl (Or.inl rfl) (pe_fn (ok_write_options_options (P := P) (K := K) W) (hr.mono (by decide)) (by rfl) (pa_cons (pv 2) pa_nil)))
      (pss_cons (ps_set (i := 4) sc_encode.nd rfl (Or.inl rfl) (pe_get W.c_Segment W.n_Segment_ack RSegment.l_ack (pv 2)))
      (pss_cons (ps_if (pt_cmpR op_isN (pv 4) pe_non (nomark _)) (pss_one (ps_set (i := 4) sc_encode.nd rfl (Or.inl rfl) pe_int)) pss_nil)
      (pss_cons (ps_set (i := 5) sc_encode.nd rfl (Or.inl rfl) (pe_op op_cat (pe_op op_cat (pe_fn (ok_write_number (P := P) (K := K) W) (hr.mono (by decide)) (by rfl) (pa_cons (pe_get W.c_Segment W.n_Segment_source RSegment.l_source (pv 2)) (pa_cons pe_int pa_nil))) (pe_fn (ok_write_number (P := P) (K := K) W) (hr.mono (by decide)) (by rfl) (pa_cons (pe_get W.c_Segment W.n_Segment_target RSegment.l_target (pv 2)) (pa_cons pe_int pa_nil)))) (pe_fn (ok_write_number (P := P) (K := K) W) (hr.mono (by decide)) (by rfl) (pa_cons (pe_get W.c_Segment W.n_Segment_seq RSegment.l_seq (pv 2)) (pa_cons pe_int pa_nil)))))
      (pss_cons (ps_set (i := 5) sc_encode.nd rfl (Or.inl rfl) (pe_op op_cat (pe_op op_cat (pv 5) (pe_fn (ok_write_number (P := P) (K := K) W) (hr.mono (by decide)) (by rfl) (pa_cons (pv 4) (pa_cons pe_int pa_nil)))) (pe_lst (pa_cons (pe_op op_mul (pe_op op_fdiv (pe_op op_add (pe_gint rfl W.i_HEADER) (pe_callB call_len_seq (by rfl) W.f_len boot_len (pa_cons (pv 3) pa_nil))) pe_int) pe_int) (pa_cons (pe_fn (ok_flags_of (P := P) (K := K) W) (hr.mono (by decide)) (by rfl) (pa_cons (pv 2) pa_nil)) pa_nil)))))
      (pss_cons (ps_set (i := 5) sc_encode.nd rfl (Or.inl rfl) (pe_op op_cat (pe_op op_cat (pe_op op_cat (pe_op op_cat (pv 5) (pe_fn (ok_write_number (P := P) (K := K) W) (hr.mono (by decide)) (by rfl) (pa_cons (pe_get W.c_Segment W.n_Segment_window RSegment.l_window (pv 2)) (pa_cons pe_int pa_nil)))) (pe_lst (pa_cons pe_int (pa_cons pe_int (pa_cons pe_int (pa_cons pe_int pa_nil)))))) (pv 3)) (pe_get W.c_Segment W.n_Segment_data RSegment.l_data (pv 2))))
      (pss_one (ps_ret (pe_op op_cat (pe_op op_cat (pe_slice sl_list (pv 5) po_none (po_some pe_int)) (pe_fn (ok_write_number (P := P) (K := K) W) (hr.mono (by decide)) (by rfl) (pa_cons (pe_fn (ok_checksum (P := P) (K := K) W) (hr.mono (by decide)) (by rfl) (pa_cons (pv 0) (pa_cons (pv 1) (pa_cons (pv 5) pa_nil)))) (pa_cons pe_int pa_nil)))) (pe_slice sl_list (pv 5) (po_some pe_int) po_none)))))))))), ?_⟩
    walk_at "s"
    have e0 : ∀ (X : List V) (E2 : List Int), X = nis (hdrO d) → E2 = hdrO d → cutV X none (some 16) ++ nis (wnum (csum x t E2) 2) ++ cutV X (some 18) none = nis (enc x t d) := by
      rintro X E2 rfl rfl
      rw [cut_hi (i := 16) _ 16 rfl, cut_lo (i := 18) _ 18 rfl]
      simp [enc]
    exact q _ _ (by walk_at "fresh") (by walk_at "same") (lk_eq (by walk_at "look") (e0 _ _ (by simp [hdrO, plainO_len]) (by simp [hdrO, plainO_len])))
theorem ok_encode (W : Wld K mg) : GFn P w K mg base "encode" 6 ["sender", "target", "segment"] (spEncode K) := by
  obtain ⟨fd, F1, F⟩ := fo_encode (P := P) (w := w) (base := base) W
  exact ⟨⟨_, fd, F1, W.g_encode, F.kp, F.bindsN fun _ _ _ _ _ _ us hl => match us, hl with | [_, _, _], _ => rfl⟩⟩
theorem u_encode {x t : Int} {p dx rl st dl : Addr} {d : SegD} {H : Hp} {Q : VK} (h : SegOK K H p dx rl st dl d) (q : RL (nis (enc x t d)) H Q) : spEncode K [.int x, .int t, .ref p] H Q E0 := ⟨x, t, p, dx, rl, st, dl, d, rfl, h, q⟩
end
end
/-! part D3 -/
section
set_option maxHeartbeats 4000000
open PySem PySem.Spec PyProof.Rows L2 ClX

section
variable {P : Program} {w : World} {K : PySem.W.Frag} {mg : Str → Option Value} {base : Heap}
def spCodeReaderI (C : Addr) : Sp := fun vs H Q _ => ∃ (p dx : Addr) (x1 x2 : V), vs = [.ref p, x1, x2] ∧ H p = some (.ins C dx []) ∧ RI p (.ins C dx (RCodeReader.fs ⟨x1, x2, .int 0⟩)) H Q
abbrev N_CodeReader___init__ : List Str := ["self", "numbers", "line"]
theorem sc_CodeReader___init__ : FnScope N_CodeReader___init__ ["self", "numbers", "line"] (defScope s_CodeReader___init__) := ⟨rfl, rfl, rfl, by decide +kernel, rfl, by decide +kernel, by decide +kernel⟩
theorem fo_CodeReader___init__ (W : Wld K mg) : ∃ fd, FnOk P w K mg base CX0 1 (pl_CodeReader___init__.ad K) fd ["self", "numbers", "line"] (spCodeReaderI (He.ga K "CodeReader")) ∧ FunD K "__init__" "CodeReader.__init__" (defArgs s_CodeReader___init__) (defBody s_CodeReader___init__) (defScope s_CodeReader___init__) [] [] (pl_CodeReader___init__.ad K) fd := by
  obtain ⟨fd, F⟩ := W.d_CodeReader___init__
  refine ⟨fd, F.ok sc_CodeReader___init__ (fun vs H Q E h => ?_) (fun cdv A outer s H vs Q E hr h => ?_), F⟩
  · obtain ⟨p, dx, x1, x2, rfl, z1, q⟩ := h; rfl
  · obtain ⟨p, dx, x1, x2, rfl, z1, q⟩ := h
    have hu := hu_of hr
    refine ⟨_, PSs.nox (pss_cons (ps_ini W.c_CodeReader W.n_CodeReader_numbers (pv 0) (pv 1))
      (pss_cons (ps_ini W.c_CodeReader W.n_CodeReader_line (pv 0) (pv 2))
      (pss_one (ps_ini W.c_CodeReader W.n_CodeReader_at (pv 0) pe_int)))), ?_⟩
    walk_at "s"
    exact q _ (by walk_at "kp") (by walk_at "ins")
theorem ok_CodeReader_make (W : Wld K mg) : MkC P w K mg base "CodeReader" (He.ga K "CodeReader") 1 ["self", "numbers", "line"] [] (spCodeReaderI (He.ga K "CodeReader")) := by
  obtain ⟨fd, F1, F⟩ := fo_CodeReader___init__ (P := P) (w := w) (base := base) W
  exact ⟨⟨_, fd, [], W.mk_CodeReader, F1, W.g_CodeReader, F.bindsN fun _ _ _ _ _ _ us hl => match us, hl with | [_, _, _], _ => rfl, .nil⟩⟩
theorem u_CodeReaderI {C p dx : Addr} {x1 x2 : V} {H : Hp} {Q : VK} (h : H p = some (.ins C dx [])) (q : RI p (.ins C dx (RCodeReader.fs ⟨x1, x2, .int 0⟩)) H Q) : spCodeReaderI C [.ref p, x1, x2] H Q E0 := ⟨p, dx, x1, x2, rfl, h, q⟩
def spSocketI (C : Addr) : Sp := fun vs H Q _ => ∃ (p dx : Addr) (x1 x2 x3 x4 x5 x6 : V), vs = [.ref p, x1, x2, x3, x4, x5, x6] ∧ H p = some (.ins C dx []) ∧ RI p (.ins C dx (RSocket.fs ⟨x1, x2, x3, x4, .non, .non, .non, x6, .bl false, x5⟩)) H Q
abbrev N_Socket___init__ : List Str := ["self", "count", "port", "peer", "peer_port", "endpoint", "listened"]
theorem sc_Socket___init__ : FnScope N_Socket___init__ ["self", "count", "port", "peer", "peer_port", "endpoint", "listened"] (defScope s_Socket___init__) := ⟨rfl, rfl, rfl, by decide +kernel, rfl, by decide +kernel, by decide +kernel⟩
theorem fo_Socket___init__ (W : Wld K mg) : ∃ fd, FnOk P w K mg base CX0 1 (pl_Socket___init__.ad K) fd ["self", "count", "port", "peer", "peer_port", "endpoint", "listened"] (spSocketI (He.ga K "Socket")) ∧ FunD K "__init__" "Socket.__init__" (defArgs s_Socket___init__) (defBody s_Socket___init__) (defScope s_Socket___init__) [] [("listened", V.bl false)] (pl_Socket___init__.ad K) fd := by
  obtain ⟨fd, F⟩ := W.d_Socket___init__
  refine ⟨fd, F.ok sc_Socket___init__ (fun vs H Q E h => ?_) (fun cdv A outer s H vs Q E hr h => ?_), F⟩
  · obtain ⟨p, dx, x1, x2, x3, x4, x5, x6, rfl, z1, q⟩ := h; rfl
  · obtain ⟨p, dx, x1, x2, x3, x4, x5, x6, rfl, z1, q⟩ := h
    have hu := hu_of hr
    refine ⟨_, PSs.nox (pss_cons (ps_ini W.c_Socket W.n_Socket_count (pv 0) (pv 1))
      (pss_cons (ps_ini W.c_Socket W.n_Socket_port (pv 0) (pv 2))
      (pss_cons (ps_ini W.c_Socket W.n_Socket_peer (pv 0) (pv 3))
      (pss_cons (ps_ini W.c_Socket W.n_Socket_peer_port (pv 0) (pv 4))
      (pss_cons (ps_ini W.c_Socket W.n_Socket_peer_count (pv 0) pe_non)
      (pss_cons (ps_ini W.c_Socket W.n_Socket_peer_first (pv 0) pe_non)
      (pss_cons (ps_ini W.c_Socket W.n_Socket_peer_shift (pv 0) pe_non)
      (pss_cons (ps_ini W.c_Socket W.n_Socket_listened (pv 0) (pv 6))
      (pss_cons (ps_ini W.c_Socket W.n_Socket_accepted (pv 0) pe_bl)
      (pss_one (ps_ini W.c_Socket W.n_Socket_endpoint (pv 0) (pv 5)))))))))))), ?_⟩
    walk_at "s"
    exact q _ (by walk_at "kp") (by walk_at "ins")
theorem ok_Socket_make (W : Wld K mg) : MkC P w K mg base "Socket" (He.ga K "Socket") 1 ["self", "count", "port", "peer", "peer_port", "endpoint", "listened"] [V.bl false] (spSocketI (He.ga K "Socket")) := by
  obtain ⟨fd, F1, F⟩ := fo_Socket___init__ (P := P) (w := w) (base := base) W
  obtain ⟨ds, hv, hb⟩ := F.binds0 (ps := ["self", "count", "port", "peer", "peer_port", "endpoint", "listened"]) 6 (by decide) rfl (fun D doc pm an cdv ct us kk l1 l2 => match us, l1, kk, l2 with | [_, _, _, _, _, _], _, [_], _ => ⟨_, _, _, _, _, _, rfl, rfl, rfl⟩)
  exact ⟨⟨_, fd, ds, W.mk_Socket, F1, W.g_Socket, hb, hv⟩⟩
theorem ok_Socket_make_k (W : Wld K mg) : MkCK P w K mg base "Socket" (He.ga K "Socket") 1 ["self", "count", "port", "peer", "peer_port", "endpoint", "listened"] 5 ["listened"] (fun vs zs => vs ++ zs) (spSocketI (He.ga K "Socket")) := by
  obtain ⟨fd, F1, F⟩ := fo_Socket___init__ (P := P) (w := w) (base := base) W
  have hb := kbAll F (ps := ["self", "count", "port", "peer", "peer_port", "endpoint", "listened"]) 6 ["listened"] (fun kV doc pm an cdv ct us ws l1 l2 => match us, l1, ws, l2 with | [_, _, _, _, _, _], _, [_], _ => by kernel_rfl)
  exact ⟨⟨_, fd, _, W.mk_Socket, F1, W.g_Socket, hb⟩⟩
theorem u_SocketI {C p dx : Addr} {x1 x2 x3 x4 x5 x6 : V} {H : Hp} {Q : VK} (h : H p = some (.ins C dx [])) (q : RI p (.ins C dx (RSocket.fs ⟨x1, x2, x3, x4, .non, .non, .non, x6, .bl false, x5⟩)) H Q) : spSocketI C [.ref p, x1, x2, x3, x4, x5, x6] H Q E0 := ⟨p, dx, x1, x2, x3, x4, x5, x6, rfl, h, q⟩
def spPieceI (K : PySem.W.Frag) (C : Addr) : Sp := fun vs H Q _ => ∃ (p dx : Addr) (x1 x3 x4 x5 x6 x7 x9 x10 x11 : V) (dt rg : Addr), vs = [.ref p, x1, .ref dt, x3, x4, x5, x6, x7, .ref rg, x9, x10, x11] ∧ H p = some (.ins C dx []) ∧ Emp K dt p H ∧ Emp K rg p H ∧ RI2 p (fun a b => .ins C dx (RPiece.fs ⟨x1, .ref a, x3, x4, x5, x6, x7, .ref b, x9, x10, x11⟩)) (.lst []) (.lst []) H Q
abbrev N_Piece___init__ : List Str := ["self", "start", "data", "syn", "fin", "reset", "ack", "window", "ranges", "marked", "cut", "stamp"]
theorem sc_Piece___init__ : FnScope N_Piece___init__ ["self", "start", "data", "syn", "fin", "reset", "ack", "window", "ranges", "marked", "cut", "stamp"] (defScope s_Piece___init__) := ⟨rfl, rfl, rfl, by decide +kernel, rfl, by decide +kernel, by decide +kernel⟩
theorem fo_Piece___init__ (W : Wld K mg) : ∃ fd, FnOk P w K mg base CX0 1 (pl_Piece___init__.ad K) fd ["self", "start", "data", "syn", "fin", "reset", "ack", "window", "ranges", "marked", "cut", "stamp"] (spPieceI K (He.ga K "Piece")) ∧ FunD K "__init__" "Piece.__init__" (defArgs s_Piece___init__) (defBody s_Piece___init__) (defScope s_Piece___init__) [] [("data", V.ref (dvAd K "Piece" "data")), ("syn", V.bl false), ("fin", V.bl false), ("reset", V.bl false), ("ack", V.non), ("window", V.int 0), ("ranges", V.ref (dvAd K "Piece" "ranges")), ("marked", V.bl false), ("cut", V.bl false), ("stamp", V.non)] (pl_Piece___init__.ad K) fd := by
  obtain ⟨fd, F⟩ := W.d_Piece___init__
  refine ⟨fd, F.ok sc_Piece___init__ (fun vs H Q E h => ?_) (fun cdv A outer s H vs Q E hr h => ?_), F⟩
  · obtain ⟨p, dx, x1, x3, x4, x5, x6, x7, x9, x10, x11, dt, rg, rfl, z1, y0, y1, q⟩ := h; rfl
  · obtain ⟨p, dx, x1, x3, x4, x5, x6, x7, x9, x10, x11, dt, rg, rfl, z1, y0, y1, q⟩ := h
    have hu := hu_of hr
    refine ⟨_, PSs.nox (pss_cons (ps_ini W.c_Piece W.n_Piece_start (pv 0) (pv 1))
      (pss_cons (ps_ini W.c_Piece W.n_Piece_data (pv 0) (pe_callTy call_list_of (by rfl) W.f_list bt_list (pa_cons (pv 2) pa_nil)))
      (pss_cons (ps_ini W.c_Piece W.n_Piece_syn (pv 0) (pv 3))
      (pss_cons (ps_ini W.c_Piece W.n_Piece_fin (pv 0) (pv 4))
      (pss_cons (ps_ini W.c_Piece W.n_Piece_reset (pv 0) (pv 5))
      (pss_cons (ps_ini W.c_Piece W.n_Piece_ack (pv 0) (pv 6))
      (pss_cons (ps_ini W.c_Piece W.n_Piece_window (pv 0) (pv 7))
      (pss_cons (ps_ini W.c_Piece W.n_Piece_ranges (pv 0) (pe_callTy call_list_of (by rfl) W.f_list bt_list (pa_cons (pv 8) pa_nil)))
      (pss_cons (ps_ini W.c_Piece W.n_Piece_marked (pv 0) (pv 9))
      (pss_cons (ps_ini W.c_Piece W.n_Piece_cut (pv 0) (pv 10))
      (pss_one (ps_ini W.c_Piece W.n_Piece_stamp (pv 0) (pv 11))))))))))))), ?_⟩
    walk_at "s"
    rename_i a fa b fb
    exact q a b _ (by walk_at "fresh") (by walk_at "fresh") (by walk_at "ne") (by walk_at "ne") (by walk_at "ne") (by walk_at "kp") (by walk_at "ins") (by walk_at "look") (by walk_at "look")
theorem u_PieceI {C p dx : Addr} {x1 x3 x4 x5 x6 x7 x9 x10 x11 : V} {dt rg : Addr} {H : Hp} {Q : VK} (h : H p = some (.ins C dx [])) (h0 : Emp K dt p H) (h1 : Emp K rg p H) (q : RI2 p (fun a b => .ins C dx (RPiece.fs ⟨x1, .ref a, x3, x4, x5, x6, x7, .ref b, x9, x10, x11⟩)) (.lst []) (.lst []) H Q) : spPieceI K C [.ref p, x1, .ref dt, x3, x4, x5, x6, x7, .ref rg, x9, x10, x11] H Q E0 := ⟨p, dx, x1, x3, x4, x5, x6, x7, x9, x10, x11, dt, rg, rfl, h, h0, h1, q⟩
def spSegmentI (K : PySem.W.Frag) (C : Addr) : Sp := fun vs H Q _ => ∃ (p dx : Addr) (x1 x2 x3 x4 x5 x6 x7 x8 x9 x10 x11 x12 x13 x14 x15 x17 : V) (rg dt : Addr), vs = [.ref p, x1, x2, x3, x4, x5, x6, x7, x8, x9, x10, x11, x12, x13, x14, x15, .ref rg, x17, .ref dt] ∧ H p = some (.ins C dx []) ∧ Emp K rg p H ∧ Emp K dt p H ∧ RI2 p (fun a b => .ins C dx (RSegment.fs ⟨x1, x2, x3, x4, x5, x6, x7, x8, x9, x10, x11, x12, x13, x14, x15, .ref a, x17, .ref b⟩)) (.lst []) (.lst []) H Q
abbrev N_Segment___init__ : List Str := ["self", "source", "target", "seq", "count", "echo", "ack", "syn", "fin", "reset", "marked", "cut", "window", "mss", "scale", "ranges_known", "ranges", "stamp", "data"]
theorem sc_Segment___init__ : FnScope N_Segment___init__ ["self", "source", "target", "seq", "count", "echo", "ack", "syn", "fin", "reset", "marked", "cut", "window", "mss", "scale", "ranges_known", "ranges", "stamp", "data"] (defScope s_Segment___init__) := ⟨rfl, rfl, rfl, by decide +kernel, rfl, by decide +kernel, by decide +kernel⟩
theorem fo_Segment___init__ (W : Wld K mg) : ∃ fd, FnOk P w K mg base CX0 1 (pl_Segment___init__.ad K) fd ["self", "source", "target", "seq", "count", "echo", "ack", "syn", "fin", "reset", "marked", "cut", "window", "mss", "scale", "ranges_known", "ranges", "stamp", "data"] (spSegmentI K (He.ga K "Segment")) ∧ FunD K "__init__" "Segment.__init__" (defArgs s_Segment___init__) (defBody s_Segment___init__) (defScope s_Segment___init__) [] [("echo", V.non), ("ack", V.non), ("syn", V.bl false), ("fin", V.bl false), ("reset", V.bl false), ("marked", V.bl false), ("cut", V.bl false), ("window", V.int 0), ("mss", V.non), ("scale", V.non), ("ranges_known", V.bl false), ("ranges", V.ref (dvAd K "Segment" "ranges")), ("stamp", V.non), ("data", V.ref (dvAd K "Segment" "data"))] (pl_Segment___init__.ad K) fd := by
  obtain ⟨fd, F⟩ := W.d_Segment___init__
  refine ⟨fd, F.ok sc_Segment___init__ (fun vs H Q E h => ?_) (fun cdv A outer s H vs Q E hr h => ?_), F⟩
  · obtain ⟨p, dx, x1, x2, x3, x4, x5, x6, x7, x8, x9, x10, x11, x12, x13, x14, x15, x17, rg, dt, rfl, z1, y0, y1, q⟩ := h; rfl
  · obtain ⟨p, dx, x1, x2, x3, x4, x5, x6, x7, x8, x9, x10, x11, x12, x13, x14, x15, x17, rg, dt, rfl, z1, y0, y1, q⟩ := h
    have hu := hu_of hr
    refine ⟨_, PSs.nox (pss_cons (ps_ini W.c_Segment W.n_Segment_source (pv 0) (pv 1))
      (pss_cons (ps_ini W.c_Segment W.n_Segment_target (pv 0) (pv 2))
      (pss_cons (ps_ini W.c_Segment W.n_Segment_seq (pv 0) (pv 3))
      (pss_cons (ps_ini W.c_Segment W.n_Segment_count (pv 0) (pv 4))
      (pss_cons (ps_ini W.c_Segment W.n_Segment_echo (pv 0) (pv 5))
      (pss_cons (ps_ini W.c_Segment W.n_Segment_ack (pv 0) (pv 6))
      (pss_cons (ps_ini W.c_Segment W.n_Segment_syn (pv 0) (pv 7))
      (pss_cons (ps_ini W.c_Segment W.n_Segment_fin (pv 0) (pv 8))
      (pss_cons (ps_ini W.c_Segment W.n_Segment_reset (pv 0) (pv 9))
      (pss_cons (ps_ini W.c_Segment W.n_Segment_marked (pv 0) (pv 10))
      (pss_cons (ps_ini W.c_Segment W.n_Segment_cut (pv 0) (pv 11))
      (pss_cons (ps_ini W.c_Segment W.n_Segment_window (pv 0) (pv 12))
      (pss_cons (ps_ini W.c_Segment W.n_Segment_mss (pv 0) (pv 13))
      (pss_cons (ps_ini W.c_Segment W.n_Segment_scale (pv 0) (pv 14))
      (pss_cons (ps_ini W.c_Segment W.n_Segment_ranges_known (pv 0) (pv 15))
      (pss_cons (ps_ini W.c_Segment W.n_Segment_ranges (pv 0) (pe_callTy call_list_of (by rfl) W.f_list bt_list (pa_cons (pv 16) pa_nil)))
      (pss_cons (ps_ini W.c_Segment W.n_Segment_stamp (pv 0) (pv 17))
      (pss_one (ps_ini W.c_Segment W.n_Segment_data (pv 0) (pe_callTy call_list_of (by rfl) W.f_list bt_list (pa_cons (pv 18) pa_nil))))))))))))))))))))), ?_⟩
    walk_at "s"
    rename_i a fa b fb
    exact q a b _ (by walk_at "fresh") (by walk_at "fresh") (by walk_at "ne") (by walk_at "ne") (by walk_at "ne") (by walk_at "kp") (by walk_at "ins") (by walk_at "look") (by walk_at "look")
theorem u_SegmentI {C p dx : Addr} {x1 x2 x3 x4 x5 x6 x7 x8 x9 x10 x11 x12 x13 x14 x15 x17 : V} {rg dt : Addr} {H : Hp} {Q : VK} (h : H p = some (.ins C dx [])) (h0 : Emp K rg p H) (h1 : Emp K dt p H) (q : RI2 p (fun a b => .ins C dx (RSegment.fs ⟨x1, x2, x3, x4, x5, x6, x7, x8, x9, x10, x11, x12, x13, x14, x15, .ref a, x17, .ref b⟩)) (.lst []) (.lst []) H Q) : spSegmentI K C [.ref p, x1, x2, x3, x4, x5, x6, x7, x8, x9, x10, x11, x12, x13, x14, x15, .ref rg, x17, .ref dt] H Q E0 := ⟨p, dx, x1, x2, x3, x4, x5, x6, x7, x8, x9, x10, x11, x12, x13, x14, x15, x17, rg, dt, rfl, h, h0, h1, q⟩
def spReceiverI (K : PySem.W.Frag) (C : Addr) : Sp := fun vs H Q _ => ∃ (p dx : Addr) (room : Int), vs = [.ref p, .int room] ∧ H p = some (.ins C dx []) ∧ RI2 p (fun a b => .ins C dx (RReceiver.fs ⟨.int room, .int 0, .int (room + 1), .non, .int 0, .ref a, .ref b⟩)) (.lst []) (.dK []) H Q
abbrev N_Receiver___init__ : List Str := ["self", "room"]
theorem sc_Receiver___init__ : FnScope N_Receiver___init__ ["self", "room"] (defScope s_Receiver___init__) := ⟨rfl, rfl, rfl, by decide +kernel, rfl, by decide +kernel, by decide +kernel⟩
theorem fo_Receiver___init__ (W : Wld K mg) : ∃ fd, FnOk P w K mg base CX0 1 (pl_Receiver___init__.ad K) fd ["self", "room"] (spReceiverI K (He.ga K "Receiver")) ∧ FunD K "__init__" "Receiver.__init__" (defArgs s_Receiver___init__) (defBody s_Receiver___init__) (defScope s_Receiver___init__) [] [] (pl_Receiver___init__.ad K) fd := by
  obtain ⟨fd, F⟩ := W.d_Receiver___init__
  refine ⟨fd, F.ok sc_Receiver___init__ (fun vs H Q E h => ?_) (fun cdv A outer s H vs Q E hr h => ?_), F⟩
  · obtain ⟨p, dx, room, rfl, z1, q⟩ := h; rfl
  · obtain ⟨p, dx, room, rfl, z1, q⟩ := h
    have hu := hu_of hr
    refine ⟨_, PSs.nox (pss_cons (ps_ini W.c_Receiver W.n_Receiver_room (pv 0) (pv 1))
      (pss_cons (ps_ini W.c_Receiver W.n_Receiver_nxt (pv 0) pe_int)
      (pss_cons (ps_ini W.c_Receiver W.n_Receiver_edge (pv 0) (pe_op op_add (pv 1) pe_int))
      (pss_cons (ps_ini W.c_Receiver W.n_Receiver_end (pv 0) pe_non)
      (pss_cons (ps_ini W.c_Receiver W.n_Receiver_recent (pv 0) pe_int)
      (pss_cons (ps_ini W.c_Receiver W.n_Receiver__ready (pv 0) (pe_lst pa_nil))
      (pss_one (ps_ini W.c_Receiver W.n_Receiver__held (pv 0) pe_dnewK)))))))), ?_⟩
    walk_at "s"
    rename_i a fa b fb
    exact q a b _ (by walk_at "fresh") (by walk_at "fresh") (by walk_at "ne") (by walk_at "ne") (by walk_at "ne") (by walk_at "kp") (by walk_at "ins") (by walk_at "look") (by walk_at "look")
theorem ok_Receiver_make (W : Wld K mg) : MkC P w K mg base "Receiver" (He.ga K "Receiver") 1 ["self", "room"] [] (spReceiverI K (He.ga K "Receiver")) := by
  obtain ⟨fd, F1, F⟩ := fo_Receiver___init__ (P := P) (w := w) (base := base) W
  exact ⟨⟨_, fd, [], W.mk_Receiver, F1, W.g_Receiver, F.bindsN fun _ _ _ _ _ _ us hl => match us, hl with | [_, _], _ => rfl, .nil⟩⟩
theorem u_ReceiverI {C p dx : Addr} {room : Int} {H : Hp} {Q : VK} (h : H p = some (.ins C dx [])) (q : RI2 p (fun a b => .ins C dx (RReceiver.fs ⟨.int room, .int 0, .int (room + 1), .non, .int 0, .ref a, .ref b⟩)) (.lst []) (.dK []) H Q) : spReceiverI K C [.ref p, .int room] H Q E0 := ⟨p, dx, room, rfl, h, q⟩
def spSenderI (K : PySem.W.Frag) (C : Addr) : Sp := fun vs H Q _ => ∃ (p dx : Addr) (room : Int), vs = [.ref p, .int room] ∧ H p = some (.ins C dx []) ∧ RI2 p (fun a b => .ins C dx (RSender.fs ⟨.int room, .int 0, .int 0, .int 0, .bl false, .int 1, .non, .int 0, .int 0, .int 0, .ref a, .ref b⟩)) (.lst []) (.lst []) H Q
abbrev N_Sender___init__ : List Str := ["self", "room"]
theorem sc_Sender___init__ : FnScope N_Sender___init__ ["self", "room"] (defScope s_Sender___init__) := ⟨rfl, rfl, rfl, by decide +kernel, rfl, by decide +kernel, by decide +kernel⟩
theorem fo_Sender___init__ (W : Wld K mg) : ∃ fd, FnOk P w K mg base CX0 1 (pl_Sender___init__.ad K) fd ["self", "room"] (spSenderI K (He.ga K "Sender")) ∧ FunD K "__init__" "Sender.__init__" (defArgs s_Sender___init__) (defBody s_Sender___init__) (defScope s_Sender___init__) [] [] (pl_Sender___init__.ad K) fd := by
  obtain ⟨fd, F⟩ := W.d_Sender___init__
  refine ⟨fd, F.ok sc_Sender___init__ (fun vs H Q E h => ?_) (fun cdv A outer s H vs Q E hr h => ?_), F⟩
  · obtain ⟨p, dx, room, rfl, z1, q⟩ := h; rfl
  · obtain ⟨p, dx, room, rfl, z1, q⟩ := h
    have hu := hu_of hr
    refine ⟨_, PSs.nox (pss_cons (ps_ini W.c_Sender W.n_Sender_room (pv 0) (pv 1))
      (pss_cons (ps_ini W.c_Sender W.n_Sender_una (pv 0) pe_int)
      (pss_cons (ps_ini W.c_Sender W.n_Sender_nxt (pv 0) pe_int)
      (pss_cons (ps_ini W.c_Sender W.n_Sender_written (pv 0) pe_int)
      (pss_cons (ps_ini W.c_Sender W.n_Sender_finished (pv 0) pe_bl)
      (pss_cons (ps_ini W.c_Sender W.n_Sender_edge (pv 0) pe_int)
      (pss_cons (ps_ini W.c_Sender W.n_Sender_recovery (pv 0) pe_non)
      (pss_cons (ps_ini W.c_Sender W.n_Sender_resend (pv 0) pe_int)
      (pss_cons (ps_ini W.c_Sender W.n_Sender_lost (pv 0) pe_int)
      (pss_cons (ps_ini W.c_Sender W.n_Sender_repeated (pv 0) pe_int)
      (pss_cons (ps_ini W.c_Sender W.n_Sender__queue (pv 0) (pe_lst pa_nil))
      (pss_one (ps_ini W.c_Sender W.n_Sender__sacked (pv 0) (pe_lst pa_nil)))))))))))))), ?_⟩
    walk_at "s"
    rename_i a fa b fb
    exact q a b _ (by walk_at "fresh") (by walk_at "fresh") (by walk_at "ne") (by walk_at "ne") (by walk_at "ne") (by walk_at "kp") (by walk_at "ins") (by walk_at "look") (by walk_at "look")
theorem ok_Sender_make (W : Wld K mg) : MkC P w K mg base "Sender" (He.ga K "Sender") 1 ["self", "room"] [] (spSenderI K (He.ga K "Sender")) := by
  obtain ⟨fd, F1, F⟩ := fo_Sender___init__ (P := P) (w := w) (base := base) W
  exact ⟨⟨_, fd, [], W.mk_Sender, F1, W.g_Sender, F.bindsN fun _ _ _ _ _ _ us hl => match us, hl with | [_, _], _ => rfl, .nil⟩⟩
theorem u_SenderI {C p dx : Addr} {room : Int} {H : Hp} {Q : VK} (h : H p = some (.ins C dx [])) (q : RI2 p (fun a b => .ins C dx (RSender.fs ⟨.int room, .int 0, .int 0, .int 0, .bl false, .int 1, .non, .int 0, .int 0, .int 0, .ref a, .ref b⟩)) (.lst []) (.lst []) H Q) : spSenderI K C [.ref p, .int room] H Q E0 := ⟨p, dx, room, rfl, h, q⟩
def spPacketI (C : Addr) : Sp := fun vs H Q _ => ∃ (p dx : Addr) (x1 x2 x4 : V) (oc : Addr) (ns : List V), vs = [.ref p, x1, x2, .ref oc, x4] ∧ H p = some (.ins C dx []) ∧ H oc = some (.lst ns) ∧ oc ≠ p ∧ RI1 p (fun a => .ins C dx (RPacket.fs ⟨x1, x2, .ref a, x4⟩)) (.lst ns) H Q
abbrev N_Packet___init__ : List Str := ["self", "sender", "target", "octets", "marked"]
theorem sc_Packet___init__ : FnScope N_Packet___init__ ["self", "sender", "target", "octets", "marked"] (defScope s_Packet___init__) := ⟨rfl, rfl, rfl, by decide +kernel, rfl, by decide +kernel, by decide +kernel⟩
theorem fo_Packet___init__ (W : Wld K mg) : ∃ fd, FnOk P w K mg base CX0 1 (pl_Packet___init__.ad K) fd ["self", "sender", "target", "octets", "marked"] (spPacketI (He.ga K "Packet")) ∧ FunD K "__init__" "Packet.__init__" (defArgs s_Packet___init__) (defBody s_Packet___init__) (defScope s_Packet___init__) [] [("marked", V.bl false)] (pl_Packet___init__.ad K) fd := by
  obtain ⟨fd, F⟩ := W.d_Packet___init__
  refine ⟨fd, F.ok sc_Packet___init__ (fun vs H Q E h => ?_) (fun cdv A outer s H vs Q E hr h => ?_), F⟩
  · obtain ⟨p, dx, x1, x2, x4, oc, ns, rfl, z1, z2, z3, q⟩ := h; rfl
  · obtain ⟨p, dx, x1, x2, x4, oc, ns, rfl, z1, z2, z3, q⟩ := h
    have hu := hu_of hr
    refine ⟨_, PSs.nox (pss_cons (ps_ini W.c_Packet W.n_Packet_sender (pv 0) (pv 1))
      (pss_cons (ps_ini W.c_Packet W.n_Packet_target (pv 0) (pv 2))
      (pss_cons (ps_ini W.c_Packet W.n_Packet_octets (pv 0) (pe_callTy call_list_of (by rfl) W.f_list bt_list (pa_cons (pv 3) pa_nil)))
      (pss_one (ps_ini W.c_Packet W.n_Packet_marked (pv 0) (pv 4)))))), ?_⟩
    walk_at "s"
    rename_i a fa
    exact q a _ (by walk_at "fresh") (by walk_at "ne") (by walk_at "kp") (by walk_at "ins") (by walk_at "look")
theorem ok_Packet_make (W : Wld K mg) : MkC P w K mg base "Packet" (He.ga K "Packet") 1 ["self", "sender", "target", "octets", "marked"] [V.bl false] (spPacketI (He.ga K "Packet")) := by
  obtain ⟨fd, F1, F⟩ := fo_Packet___init__ (P := P) (w := w) (base := base) W
  obtain ⟨ds, hv, hb⟩ := F.binds0 (ps := ["self", "sender", "target", "octets", "marked"]) 4 (by decide) rfl (fun D doc pm an cdv ct us kk l1 l2 => match us, l1, kk, l2 with | [_, _, _, _], _, [_], _ => ⟨_, _, _, _, _, _, rfl, rfl, rfl⟩)
  exact ⟨⟨_, fd, ds, W.mk_Packet, F1, W.g_Packet, hb, hv⟩⟩
theorem ok_Packet_make_k (W : Wld K mg) : MkCK P w K mg base "Packet" (He.ga K "Packet") 1 ["self", "sender", "target", "octets", "marked"] 3 ["marked"] (fun vs zs => vs ++ zs) (spPacketI (He.ga K "Packet")) := by
  obtain ⟨fd, F1, F⟩ := fo_Packet___init__ (P := P) (w := w) (base := base) W
  have hb := kbAll F (ps := ["self", "sender", "target", "octets", "marked"]) 4 ["marked"] (fun kV doc pm an cdv ct us ws l1 l2 => match us, l1, ws, l2 with | [_, _, _, _], _, [_], _ => by kernel_rfl)
  exact ⟨⟨_, fd, _, W.mk_Packet, F1, W.g_Packet, hb⟩⟩
theorem u_PacketI {C p dx : Addr} {x1 x2 x4 : V} {oc : Addr} {ns : List V} {H : Hp} {Q : VK} (h : H p = some (.ins C dx [])) (h2 : H oc = some (.lst ns)) (h3 : oc ≠ p) (q : RI1 p (fun a => .ins C dx (RPacket.fs ⟨x1, x2, .ref a, x4⟩)) (.lst ns) H Q) : spPacketI C [.ref p, x1, x2, .ref oc, x4] H Q E0 := ⟨p, dx, x1, x2, x4, oc, ns, rfl, h, h2, h3, q⟩
def spHostI (C : Addr) : Sp := fun vs H Q _ => ∃ (p dx : Addr) (x1 x2 : V), vs = [.ref p, x1, x2] ∧ H p = some (.ins C dx []) ∧ RI3 p (fun a b c => .ins C dx (RHost.fs ⟨x1, x2, .int 0, .int 0, .ref a, .ref b, .ref c⟩)) (.dK []) (.lst []) (.lst []) H Q
abbrev N_Host___init__ : List Str := ["self", "address", "options"]
theorem sc_Host___init__ : FnScope N_Host___init__ ["self", "address", "options"] (defScope s_Host___init__) := ⟨rfl, rfl, rfl, by decide +kernel, rfl, by decide +kernel, by decide +kernel⟩
theorem fo_Host___init__ (W : Wld K mg) : ∃ fd, FnOk P w K mg base CX0 1 (pl_Host___init__.ad K) fd ["self", "address", "options"] (spHostI (He.ga K "Host")) ∧ FunD K "__init__" "Host.__init__" (defArgs s_Host___init__) (defBody s_Host___init__) (defScope s_Host___init__) [] [] (pl_Host___init__.ad K) fd := by
  obtain ⟨fd, F⟩ := W.d_Host___init__
  refine ⟨fd, F.ok sc_Host___init__ (fun vs H Q E h => ?_) (fun cdv A outer s H vs Q E hr h => ?_), F⟩
  · obtain ⟨p, dx, x1, x2, rfl, z1, q⟩ := h; rfl
  · obtain ⟨p, dx, x1, x2, rfl, z1, q⟩ := h
    have hu := hu_of hr
    refine ⟨_, PSs.nox (pss_cons (ps_ini W.c_Host W.n_Host_address (pv 0) (pv 1))
      (pss_cons (ps_ini W.c_Host W.n_Host_options (pv 0) (pv 2))
      (pss_cons (ps_ini W.c_Host W.n_Host_counter (pv 0) pe_int)
      (pss_cons (ps_ini W.c_Host W.n_Host_now (pv 0) pe_int)
      (pss_cons (ps_ini W.c_Host W.n_Host__listeners (pv 0) pe_dnewK)
      (pss_cons (ps_ini W.c_Host W.n_Host__sockets (pv 0) (pe_lst pa_nil))
      (pss_one (ps_ini W.c_Host W.n_Host__packets (pv 0) (pe_lst pa_nil))))))))), ?_⟩
    walk_at "s"
    rename_i a fa b fb c fc
    exact q a b c _ (by walk_at "fresh") (by walk_at "fresh") (by walk_at "fresh") (by walk_at "ne") (by walk_at "ne") (by walk_at "ne") (by walk_at "ne") (by walk_at "ne") (by walk_at "ne") (by walk_at "kp") (by walk_at "ins") (by walk_at "look") (by walk_at "look") (by walk_at "look")
theorem ok_Host_make (W : Wld K mg) : MkC P w K mg base "Host" (He.ga K "Host") 1 ["self", "address", "options"] [] (spHostI (He.ga K "Host")) := by
  obtain ⟨fd, F1, F⟩ := fo_Host___init__ (P := P) (w := w) (base := base) W
  exact ⟨⟨_, fd, [], W.mk_Host, F1, W.g_Host, F.bindsN fun _ _ _ _ _ _ us hl => match us, hl with | [_, _, _], _ => rfl, .nil⟩⟩
theorem u_HostI {C p dx : Addr} {x1 x2 : V} {H : Hp} {Q : VK} (h : H p = some (.ins C dx [])) (q : RI3 p (fun a b c => .ins C dx (RHost.fs ⟨x1, x2, .int 0, .int 0, .ref a, .ref b, .ref c⟩)) (.dK []) (.lst []) (.lst []) H Q) : spHostI C [.ref p, x1, x2] H Q E0 := ⟨p, dx, x1, x2, rfl, h, q⟩
end
end
/-! part DP -/
section
set_option maxHeartbeats 4000000
open PySem PySem.Spec PyProof.Rows L2 ClX
section
variable {P : Program} {w : World} {K : PySem.W.Frag} {mg : Str → Option Value} {base : Heap}
theorem ok_Piece_make_k (W : Wld K mg) : MkCK P w K mg base "Piece" (He.ga K "Piece") 1 ["self", "start", "data", "syn", "fin", "reset", "ack", "window", "ranges", "marked", "cut", "stamp"] 1 ["data", "syn", "fin"] (fun vs zs => vs ++ (((zs.drop 0).take 3) ++ (((([V.bl false, V.non, V.int 0, V.ref (dvAd K "Piece" "ranges"), V.bl false, V.bl false, V.non] : List V).drop 0).take 7)))) (spPieceI K (He.ga K "Piece")) := by
  obtain ⟨fd, F1, F⟩ := fo_Piece___init__ (P := P) (w := w) (base := base) W
  obtain ⟨mv, hb⟩ := F.kbinds0 (ps := ["self", "start", "data", "syn", "fin", "reset", "ack", "window", "ranges", "marked", "cut", "stamp"]) 2 ["data", "syn", "fin"] [("reset", V.bl false), ("ack", V.non), ("window", V.int 0), ("ranges", V.ref (dvAd K "Piece" "ranges")), ("marked", V.bl false), ("cut", V.bl false), ("stamp", V.non)] (fun {α} (us mv ws : List α) => us ++ (((ws.drop 0).take 3) ++ (((mv.drop 0).take 7)))) (by simp) (by simp) (fun r1 r2 r3 => r1.append (((r3.drop 0).take 3).append ((r2.drop 0).take 7)))
    (fun D doc pm an cdv ct us mv ws l1 l2 l3 => match us, l1, mv, l2, ws, l3 with | [u0, u1], _, [m0, m1, m2, m3, m4, m5, m6], _, [w0, w1, w2], _ => ⟨_, _, _, _, _, ForInStep.yield (([("self", u0), ("start", u1), ("data", w0), ("syn", w1), ("fin", w2), ("reset", m0)] : List (Str × Value)), ([] : List Str)), rfl, rfl, ⟨_, _, _, _, _, ForInStep.yield (([("self", u0), ("start", u1), ("data", w0), ("syn", w1), ("fin", w2), ("reset", m0), ("ack", m1)] : List (Str × Value)), ([] : List Str)), rfl, rfl, ⟨_, _, _, _, _, ForInStep.yield (([("self", u0), ("start", u1), ("data", w0), ("syn", w1), ("fin", w2), ("reset", m0), ("ack", m1), ("window", m2)] : List (Str × Value)), ([] : List Str)), rfl, rfl, ⟨_, _, _, _, _, ForInStep.yield (([("self", u0), ("start", u1), ("data", w0), ("syn", w1), ("fin", w2), ("reset", m0), ("ack", m1), ("window", m2), ("ranges", m3)] : List (Str × Value)), ([] : List Str)), rfl, rfl, ⟨_, _, _, _, _, ForInStep.yield (([("self", u0), ("start", u1), ("data", w0), ("syn", w1), ("fin", w2), ("reset", m0), ("ack", m1), ("window", m2), ("ranges", m3), ("marked", m4)] : List (Str × Value)), ([] : List Str)), rfl, rfl, ⟨_, _, _, _, _, ForInStep.yield (([("self", u0), ("start", u1), ("data", w0), ("syn", w1), ("fin", w2), ("reset", m0), ("ack", m1), ("window", m2), ("ranges", m3), ("marked", m4), ("cut", m5)] : List (Str × Value)), ([] : List Str)), rfl, rfl, ⟨_, _, _, _, _, ForInStep.yield (([("self", u0), ("start", u1), ("data", w0), ("syn", w1), ("fin", w2), ("reset", m0), ("ack", m1), ("window", m2), ("ranges", m3), ("marked", m4), ("cut", m5), ("stamp", m6)] : List (Str × Value)), ([] : List Str)), rfl, rfl, rfl⟩⟩⟩⟩⟩⟩⟩)
  exact ⟨⟨_, fd, _, W.mk_Piece, F1, W.g_Piece, hb⟩⟩

end
end
/-! part DS -/
section
set_option maxHeartbeats 4000000
open PySem PySem.Spec PyProof.Rows L2 ClX
section
variable {P : Program} {w : World} {K : PySem.W.Frag} {mg : Str → Option Value} {base : Heap}
theorem ok_Segment_make_kL (W : Wld K mg) : MkCK P w K mg base "Segment" (He.ga K "Segment") 1 ["self", "source", "target", "seq", "count", "echo", "ack", "syn", "fin", "reset", "marked", "cut", "window", "mss", "scale", "ranges_known", "ranges", "stamp", "data"] 2 ["seq", "count", "syn", "window", "mss", "scale", "ranges_known", "stamp"] (fun vs zs => vs ++ (((zs.drop 0).take 2) ++ (((([V.non, V.non, V.bl false, V.bl false, V.bl false, V.bl false, V.ref (dvAd K "Segment" "ranges"), V.ref (dvAd K "Segment" "data")] : List V).drop 0).take 2) ++ (((zs.drop 2).take 1) ++ (((([V.non, V.non, V.bl false, V.bl false, V.bl false, V.bl false, V.ref (dvAd K "Segment" "ranges"), V.ref (dvAd K "Segment" "data")] : List V).drop 2).take 4) ++ (((zs.drop 3).take 4) ++ (((([V.non, V.non, V.bl false, V.bl false, V.bl false, V.bl false, V.ref (dvAd K "Segment" "ranges"), V.ref (dvAd K "Segment" "data")] : List V).drop 6).take 1) ++ (((zs.drop 7).take 1) ++ (((([V.non, V.non, V.bl false, V.bl false, V.bl false, V.bl false, V.ref (dvAd K "Segment" "ranges"), V.ref (dvAd K "Segment" "data")] : List V).drop 7).take 1)))))))))) (spSegmentI K (He.ga K "Segment")) := by
  obtain ⟨fd, F1, F⟩ := fo_Segment___init__ (P := P) (w := w) (base := base) W
  obtain ⟨mv, hb⟩ := F.kbinds0 (ps := ["self", "source", "target", "seq", "count", "echo", "ack", "syn", "fin", "reset", "marked", "cut", "window", "mss", "scale", "ranges_known", "ranges", "stamp", "data"]) 3 ["seq", "count", "syn", "window", "mss", "scale", "ranges_known", "stamp"] [("echo", V.non), ("ack", V.non), ("fin", V.bl false), ("reset", V.bl false), ("marked", V.bl false), ("cut", V.bl false), ("ranges", V.ref (dvAd K "Segment" "ranges")), ("data", V.ref (dvAd K "Segment" "data"))] (fun {α} (us mv ws : List α) => us ++ (((ws.drop 0).take 2) ++ (((mv.drop 0).take 2) ++ (((ws.drop 2).take 1) ++ (((mv.drop 2).take 4) ++ (((ws.drop 3).take 4) ++ (((mv.drop 6).take 1) ++ (((ws.drop 7).take 1) ++ (((mv.drop 7).take 1)))))))))) (by simp) (by simp) (fun r1 r2 r3 => r1.append (((r3.drop 0).take 2).append (((r2.drop 0).take 2).append (((r3.drop 2).take 1).append (((r2.drop 2).take 4).append (((r3.drop 3).take 4).append (((r2.drop 6).take 1).append (((r3.drop 7).take 1).append ((r2.drop 7).take 1)))))))))
    (fun D doc pm an cdv ct us mv ws l1 l2 l3 => match us, l1, mv, l2, ws, l3 with | [u0, u1, u2], _, [m0, m1, m2, m3, m4, m5, m6, m7], _, [w0, w1, w2, w3, w4, w5, w6, w7], _ => ⟨_, _, _, _, _, ForInStep.yield (([("self", u0), ("source", u1), ("target", u2), ("seq", w0), ("count", w1), ("syn", w2), ("window", w3), ("mss", w4), ("scale", w5), ("ranges_known", w6), ("stamp", w7), ("echo", m0)] : List (Str × Value)), ([] : List Str)), rfl, rfl, ⟨_, _, _, _, _, ForInStep.yield (([("self", u0), ("source", u1), ("target", u2), ("seq", w0), ("count", w1), ("syn", w2), ("window", w3), ("mss", w4), ("scale", w5), ("ranges_known", w6), ("stamp", w7), ("echo", m0), ("ack", m1)] : List (Str × Value)), ([] : List Str)), rfl, rfl, ⟨_, _, _, _, _, ForInStep.yield (([("self", u0), ("source", u1), ("target", u2), ("seq", w0), ("count", w1), ("syn", w2), ("window", w3), ("mss", w4), ("scale", w5), ("ranges_known", w6), ("stamp", w7), ("echo", m0), ("ack", m1), ("fin", m2)] : List (Str × Value)), ([] : List Str)), rfl, rfl, ⟨_, _, _, _, _, ForInStep.yield (([("self", u0), ("source", u1), ("target", u2), ("seq", w0), ("count", w1), ("syn", w2), ("window", w3), ("mss", w4), ("scale", w5), ("ranges_known", w6), ("stamp", w7), ("echo", m0), ("ack", m1), ("fin", m2), ("reset", m3)] : List (Str × Value)), ([] : List Str)), rfl, rfl, ⟨_, _, _, _, _, ForInStep.yield (([("self", u0), ("source", u1), ("target", u2), ("seq", w0), ("count", w1), ("syn", w2), ("window", w3), ("mss", w4), ("scale", w5), ("ranges_known", w6), ("stamp", w7), ("echo", m0), ("ack", m1), ("fin", m2), ("reset", m3), ("marked", m4)] : List (Str × Value)), ([] : List Str)), rfl, rfl, ⟨_, _, _, _, _, ForInStep.yield (([("self", u0), ("source", u1), ("target", u2), ("seq", w0), ("count", w1), ("syn", w2), ("window", w3), ("mss", w4), ("scale", w5), ("ranges_known", w6), ("stamp", w7), ("echo", m0), ("ack", m1), ("fin", m2), ("reset", m3), ("marked", m4), ("cut", m5)] : List (Str × Value)), ([] : List Str)), rfl, rfl, ⟨_, _, _, _, _, ForInStep.yield (([("self", u0), ("source", u1), ("target", u2), ("seq", w0), ("count", w1), ("syn", w2), ("window", w3), ("mss", w4), ("scale", w5), ("ranges_known", w6), ("stamp", w7), ("echo", m0), ("ack", m1), ("fin", m2), ("reset", m3), ("marked", m4), ("cut", m5), ("ranges", m6)] : List (Str × Value)), ([] : List Str)), rfl, rfl, ⟨_, _, _, _, _, ForInStep.yield (([("self", u0), ("source", u1), ("target", u2), ("seq", w0), ("count", w1), ("syn", w2), ("window", w3), ("mss", w4), ("scale", w5), ("ranges_known", w6), ("stamp", w7), ("echo", m0), ("ack", m1), ("fin", m2), ("reset", m3), ("marked", m4), ("cut", m5), ("ranges", m6), ("data", m7)] : List (Str × Value)), ([] : List Str)), rfl, rfl, rfl⟩⟩⟩⟩⟩⟩⟩⟩)
  exact ⟨⟨_, fd, _, W.mk_Segment, F1, W.g_Segment, hb⟩⟩
theorem ok_Segment_make_k (W : Wld K mg) : MkCK P w K mg base "Segment" (He.ga K "Segment") 1 ["self", "source", "target", "seq", "count", "echo", "ack", "syn", "fin", "reset", "marked", "cut", "window", "mss", "scale", "ranges_known", "ranges", "stamp", "data"] 2 ["seq", "count", "echo", "ack", "syn", "fin", "reset", "marked", "cut", "window", "mss", "scale", "ranges_known", "ranges", "stamp", "data"] (fun vs zs => vs ++ zs) (spSegmentI K (He.ga K "Segment")) := by
  obtain ⟨fd, F1, F⟩ := fo_Segment___init__ (P := P) (w := w) (base := base) W
  have hb := kbAll F (ps := ["self", "source", "target", "seq", "count", "echo", "ack", "syn", "fin", "reset", "marked", "cut", "window", "mss", "scale", "ranges_known", "ranges", "stamp", "data"]) 3 ["seq", "count", "echo", "ack", "syn", "fin", "reset", "marked", "cut", "window", "mss", "scale", "ranges_known", "ranges", "stamp", "data"] (fun kV doc pm an cdv ct us ws l1 l2 => match us, l1, ws, l2 with | [_, _, _], _, [_, _, _, _, _, _, _, _, _, _, _, _, _, _, _, _], _ => by kernel_rfl)
  exact ⟨⟨_, fd, _, W.mk_Segment, F1, W.g_Segment, hb⟩⟩

end
end
/-! part D4 -/
section
set_option maxHeartbeats 4000000
open PySem PySem.Spec PyProof.Rows L2 ClX

section
variable {P : Program} {w : World} {K : PySem.W.Frag} {mg : Str → Option Value} {base : Heap}
structure OptD where
  mss : Int
  room : Int
  life : Int
  pace : Int
  tries : Int
  mn : Int
  mx : Int
  dly : Int
  alive : Int
  nagle : Bool
  cubic : Bool
def OptD.ctl (o : OptD) : Str := if o.cubic = true then "cubic" else "reno"
abbrev OptD.r (o : OptD) : ROptions := ⟨.int o.mss, .int o.room, .int o.life, .int o.pace, .int o.tries, .int o.mn, .int o.mx, .int o.dly, .int o.alive, .bl o.nagle, .str o.ctl⟩
structure OptD.Ok (o : OptD) : Prop where
  m1 : 8 ≤ o.mss
  m2 : o.mss ≤ 1460
  r1 : 2 * o.mss ≤ o.room
  r2 : o.room ≤ 262144
  l1 : 1 ≤ o.life
  p1 : 1 ≤ o.pace
  p2 : o.pace * (o.life + 1) ≤ 1073741824
  p3 : o.pace < 18446744073709551616
  t1 : 1 ≤ o.tries
  t2 : o.tries ≤ 100
  n1 : 1 ≤ o.mn
  n2 : o.mn ≤ o.mx
  n3 : o.mx ≤ 1073741824
  d1 : 0 ≤ o.dly
  d2 : o.dly < o.mn
  k1 : 0 ≤ o.alive
  k2 : o.alive ≤ 1073741824
theorem OptD.in_ctl (o : OptD) : inV (V.str o.ctl) [V.str "reno", V.str "cubic"] = true := by
  unfold OptD.ctl
  cases o.cubic <;> rfl
def spOptionsI (C : Addr) : Sp := fun vs H Q _ => ∃ (p dx : Addr) (o : OptD), vs = [.ref p, .int o.mss, .int o.room, .int o.life, .int o.pace, .int o.tries, .int o.mn, .int o.mx, .int o.dly, .int o.alive, .bl o.nagle, .str o.ctl] ∧ o.Ok ∧ H p = some (.ins C dx []) ∧ RI p (.ins C dx (ROptions.fs o.r)) H Q
abbrev N_Options___init__ : List Str := ["self", "mss", "room", "life", "pace", "tries", "min_rto", "max_rto", "ack_delay", "keep_alive", "nagle", "control", "sizes", "rates", "waits", "delays"]
theorem sc_Options___init__ : FnScope N_Options___init__ ["self", "mss", "room", "life", "pace", "tries", "min_rto", "max_rto", "ack_delay", "keep_alive", "nagle", "control"] (defScope s_Options___init__) := ⟨rfl, rfl, rfl, by decide +kernel, rfl, by decide +kernel, by decide +kernel⟩
theorem fo_Options___init__ (W : Wld K mg) : ∃ fd, FnOk P w K mg base CX0 1 (pl_Options___init__.ad K) fd ["self", "mss", "room", "life", "pace", "tries", "min_rto", "max_rto", "ack_delay", "keep_alive", "nagle", "control"] (spOptionsI (He.ga K "Options")) ∧ FunD K "__init__" "Options.__init__" (defArgs s_Options___init__) (defBody s_Options___init__) (defScope s_Options___init__) [] [("ack_delay", V.int 0), ("keep_alive", V.int 0), ("nagle", V.bl false), ("control", V.str "reno")] (pl_Options___init__.ad K) fd := by
  obtain ⟨fd, F⟩ := W.d_Options___init__
  refine ⟨fd, F.ok sc_Options___init__ (fun vs H Q E h => ?_) (fun cdv A outer s H vs Q E hr h => ?_), F⟩
  · obtain ⟨p, dx, o, rfl, ⟨m1, m2, r1, r2, l1, p1, p2, p3, t1, t2, n1, n2, n3, d1, d2, k1, k2⟩, z1, q⟩ := h; rfl
  · obtain ⟨p, dx, o, rfl, ⟨m1, m2, r1, r2, l1, p1, p2, p3, t1, t2, n1, n2, n3, d1, d2, k1, k2⟩, z1, q⟩ := h
    have hu := hu_of hr
    refine ⟨_, PSs.nox (pss_cons (ps_set (i := 12) sc_Options___init__.nd rfl (Or.inl rfl) (pe_and (pe_chain op_le op_le pe_int (pv 1) pe_int) (pe_one (pe_chain op_le op_le (pe_op op_mul pe_int (pv 1)) (pv 2) pe_int))))
      (pss_cons (ps_set (i := 13) sc_Options___init__.nd rfl (Or.inl rfl) (pe_and (pe_cmpR op_ge (pv 3) pe_int (nomark _)) (pe_and (pe_cmpR op_ge (pv 4) pe_int (nomark _)) (pe_one (pe_cmpR op_le (pe_op op_mul (pv 4) (pe_op op_add (pv 3) pe_int)) (pe_gint rfl W.i_GREATEST) (nomark _))))))
      (pss_cons (ps_set (i := 14) sc_Options___init__.nd rfl (Or.inl rfl) (pe_and (pe_chain op_le op_le pe_int (pv 5) pe_int) (pe_one (pe_chain3 op_le op_le op_le pe_int (pv 6) (pv 7) (pe_gint rfl W.i_GREATEST)))))
      (pss_cons (ps_set (i := 15) sc_Options___init__.nd rfl (Or.inl rfl) (pe_and (pe_chain op_le op_lt pe_int (pv 8) (pv 6)) (pe_one (pe_chain op_le op_le pe_int (pv 9) (pe_gint rfl W.i_GREATEST)))))
      (pss_cons (ps_if (pt_not (PW.pt (pw_and (pt_val (pv 12)) (pw_and (pt_val (pv 13)) (pw_and (pt_val (pv 14)) (pw_and (pt_val (pv 15)) (pw_and1 (pt_cmpR op_in_seq (pv 11) (pe_tup (pa_cons pe_str (pa_cons pe_str pa_nil))) (by rfl))))))))) (pss_one ps_never) pss_nil)
      (pss_cons (ps_ini W.c_Options W.n_Options_mss (pv 0) (pv 1))
      (pss_cons (ps_ini W.c_Options W.n_Options_room (pv 0) (pv 2))
      (pss_cons (ps_ini W.c_Options W.n_Options_life (pv 0) (pv 3))
      (pss_cons (ps_ini W.c_Options W.n_Options_pace (pv 0) (pv 4))
      (pss_cons (ps_ini W.c_Options W.n_Options_tries (pv 0) (pv 5))
      (pss_cons (ps_ini W.c_Options W.n_Options_min_rto (pv 0) (pv 6))
      (pss_cons (ps_ini W.c_Options W.n_Options_max_rto (pv 0) (pv 7))
      (pss_cons (ps_ini W.c_Options W.n_Options_ack_delay (pv 0) (pv 8))
      (pss_cons (ps_ini W.c_Options W.n_Options_keep_alive (pv 0) (pv 9))
      (pss_cons (ps_ini W.c_Options W.n_Options_nagle (pv 0) (pv 10))
      (pss_one (ps_ini W.c_Options W.n_Options_control (pv 0) (pv 11)))))))))))))))))), ?_⟩
    walk_at "s"
    refine br_f (by rw [OptD.in_ctl]; rfl) ?_
    walk_at "s"
    exact q _ (by walk_at "kp") (by walk_at "ins")
theorem ok_Options_make_k (W : Wld K mg) : MkCK P w K mg base "Options" (He.ga K "Options") 1 ["self", "mss", "room", "life", "pace", "tries", "min_rto", "max_rto", "ack_delay", "keep_alive", "nagle", "control"] 0 ["mss", "room", "life", "pace", "tries", "min_rto", "max_rto", "ack_delay", "keep_alive", "nagle", "control"] (fun vs zs => vs ++ zs) (spOptionsI (He.ga K "Options")) := by
  obtain ⟨fd, F1, F⟩ := fo_Options___init__ (P := P) (w := w) (base := base) W
  have hb := kbAll F (ps := ["self", "mss", "room", "life", "pace", "tries", "min_rto", "max_rto", "ack_delay", "keep_alive", "nagle", "control"]) 1 ["mss", "room", "life", "pace", "tries", "min_rto", "max_rto", "ack_delay", "keep_alive", "nagle", "control"] (fun kV doc pm an cdv ct us ws l1 l2 => match us, l1, ws, l2 with | [_], _, [_, _, _, _, _, _, _, _, _, _, _], _ => by kernel_rfl)
  exact ⟨⟨_, fd, _, W.mk_Options, F1, W.g_Options, hb⟩⟩
theorem u_OptionsI {C p dx : Addr} {o : OptD} {H : Hp} {Q : VK} (k : o.Ok) (h : H p = some (.ins C dx [])) (q : RI p (.ins C dx (ROptions.fs o.r)) H Q) : spOptionsI C [.ref p, .int o.mss, .int o.room, .int o.life, .int o.pace, .int o.tries, .int o.mn, .int o.mx, .int o.dly, .int o.alive, .bl o.nagle, .str o.ctl] H Q E0 := ⟨p, dx, o, rfl, k, h, q⟩
/-- the shift of a room -/
def shf (r : Int) : Int := if r ≤ 65535 then 0 else if r ≤ 131071 then 1 else if r ≤ 262143 then 2 else 3
def spShift (C : Addr) : Sp := fun vs H Q _ => ∃ (p dx : Addr) (o : OptD), vs = [.ref p] ∧ o.room ≤ 262144 ∧ 0 ≤ o.room ∧ H p = some (.ins C dx (ROptions.fs o.r)) ∧ Q (.int (shf o.room)) H
abbrev N_Options_shift : List Str := ["self", "size", "k"]
theorem sc_Options_shift : FnScope N_Options_shift ["self"] (defScope s_Options_shift) := ⟨rfl, rfl, rfl, by decide +kernel, rfl, by decide +kernel, by decide +kernel⟩
theorem fo_Options_shift (W : Wld K mg) : ∃ fd, FnOk P w K mg base CX0 1 (pl_Options_shift.ad K) fd ["self"] (spShift (He.ga K "Options")) ∧ FunD K "shift" "Options.shift" (defArgs s_Options_shift) (defBody s_Options_shift) (defScope s_Options_shift) [] [] (pl_Options_shift.ad K) fd := by
  obtain ⟨fd, F⟩ := W.d_Options_shift
  refine ⟨fd, F.ok sc_Options_shift (fun vs H Q E h => ?_) (fun cdv A outer s H vs Q E hr h => ?_), F⟩
  · obtain ⟨p, dx, o, rfl, k1, k2, z1, q⟩ := h; rfl
  · obtain ⟨p, dx, o, rfl, k1, k2, z1, q⟩ := h
    have hu := hu_of hr
    refine ⟨_, PSs.nox (pss_cons (ps_set (i := 1) sc_Options_shift.nd rfl (Or.inl rfl) pe_int)
      (pss_cons (ps_for PassesOwn.never rfl (pi_range1 rfl W.f_range (pa_cons pe_int pa_nil)) (pg_name (i := 2) sc_Options_shift.nd rfl (Or.inl rfl)) (pss_cons (ps_if (pt_cmpR op_le (pe_op op_fdiv (pe_get W.c_Options W.n_Options_room ROptions.l_room (pv 0)) (pv 1)) pe_int (nomark _)) (pss_one (ps_ret (pv 2))) pss_nil)
      (pss_one (ps_set (i := 1) sc_Options_shift.nd rfl (Or.inl rfl) (pe_op op_mul (pv 1) pe_int)))))
      (pss_one (ps_ret pe_int)))), ?_⟩
    walk_at "s"
    refine c_loopR (n := 15) (by rfl) (fun i σ H' => ∃ v, H' = H ∧ ((i = 0 ∧ σ = [some (.ref p), some (.int 1), v]) ∨ (i = 1 ∧ 65535 < o.room ∧ σ = [some (.ref p), some (.int 2), v]) ∨ (i = 2 ∧ 131071 < o.room ∧ σ = [some (.ref p), some (.int 4), v]) ∨ (i = 3 ∧ 262143 < o.room ∧ σ = [some (.ref p), some (.int 8), v]))) ?_ ?_ ?_
    · exact ⟨none, rfl, .inl ⟨rfl, rfl⟩⟩
    · rintro i σ H' hi ⟨v, rfl, ⟨rfl, rfl⟩ | ⟨rfl, e, rfl⟩ | ⟨rfl, e, rfl⟩ | ⟨rfl, e, rfl⟩⟩
      · walk_at "s"
        refine br_2 (fun e2 => ?_) (fun e2 => ?_)
        · have e4 := of_decide_eq_true e2
          walk_at "s"
          refine lk_v q ?_
          rw [shf, if_pos (by omega)]
          rfl
        · have e4 := of_decide_eq_false e2
          walk_at "s"
          exact ⟨_, rfl, .inr (.inl ⟨rfl, by omega, rfl⟩)⟩
      · walk_at "s"
        refine br_2 (fun e2 => ?_) (fun e2 => ?_)
        · have e4 := of_decide_eq_true e2
          walk_at "s"
          refine lk_v q ?_
          rw [shf, if_neg (by omega), if_pos (by omega)]
          rfl
        · have e4 := of_decide_eq_false e2
          walk_at "s"
          exact ⟨_, rfl, .inr (.inr (.inl ⟨rfl, by omega, rfl⟩))⟩
      · walk_at "s"
        refine br_2 (fun e2 => ?_) (fun e2 => ?_)
        · have e4 := of_decide_eq_true e2
          walk_at "s"
          refine lk_v q ?_
          rw [shf, if_neg (by omega), if_neg (by omega), if_pos (by omega)]
          rfl
        · have e4 := of_decide_eq_false e2
          walk_at "s"
          exact ⟨_, rfl, .inr (.inr (.inr ⟨rfl, by omega, rfl⟩))⟩
      · walk_at "s"
        refine lk_v q ?_
        rw [shf, if_neg (by omega), if_neg (by omega), if_neg (by omega)]
        rfl
    · rintro σ H' ⟨v, rfl, ⟨h, _⟩ | ⟨h, _⟩ | ⟨h, _⟩ | ⟨h, _⟩⟩ <;> cases h
theorem ok_Options_shift (W : Wld K mg) : PFn P w K mg base (He.ga K "Options") "shift" 1 (spShift (He.ga K "Options")) := by
  obtain ⟨fd, F1, F⟩ := fo_Options_shift (P := P) (w := w) (base := base) W
  exact ⟨⟨_, _, fd, W.c_Options, W.p_Options_shift, F1, F.bindsN fun _ _ _ _ _ _ us hl => match us, hl with | [_], _ => rfl⟩⟩
theorem u_shift {C p dx : Addr} {o : OptD} {H : Hp} {Q : VK} (k : o.Ok) (h : H p = some (.ins C dx (ROptions.fs o.r))) (q : Q (.int (shf o.room)) H) : spShift C [.ref p] H Q E0 := ⟨p, dx, o, rfl, k.r2, by have := k.m1; have := k.r1; omega, h, q⟩
end
end
/-! part D5S -/
section
set_option maxHeartbeats 4000000
open PySem PySem.Spec PyProof.Rows L2 ClX

section
variable {P : Program} [PrOk P] {w : World} {K : PySem.W.Frag} {mg : Str → Option Value} {base : Heap}
theorem ks_mono {α : Type} {M : Model} {A : Around} {c : Code} {t : Sem α} {Q Q' : α → Shared → Prop} {E E' : Value → Shared → Prop} {s : Shared} (h : _root_.PySem.wpAt M A c t Q E s) (hq : ∀ a s', Q a s' → Q' a s') (he : ∀ e s', E e s' → E' e s') : _root_.PySem.wpAt M A c t Q' E' s :=
  ks_wpAt_mono h hq he
theorem super_ok {C B cc f : Addr} {name qual : Str} {params : Arguments} {body : List Stmt} {scope : Scope} {e : Expr} {es : List Expr} {rest : List Stmt} {dV kV doc pm cdv ct oc : Value} {an od : Option Addr} {osl : Array (Option Value)} {N ps : List Str} {k : Nat} {spB sp : Sp} {p0 p1 p2 p4 p5 : Pos} {ar : Arg} {ta : TA} {t1 : TS}
    (lk : K.lookup f = some ⟨oc, od, .func (PySem.W.fnX name qual params body scope [("__class__", cc)] dV kV doc pm an cdv ct), osl⟩) (hbd : body = .Expr (.Call (.Attribute (.Call (.Name "super" p0) [] [] p1) "__init__" p2) (e :: es) [] p4) p5 :: rest)
    (hcd : PySem.W.codeIn K cdv qual = true) (SK : SupK K C B cc cdv) (S : NdefX.NScope N ps ["__class__"] scope) (hmg : mg "super" = none) (F : FnR P w K mg base CX0 k (He.ma K B "__init__") spB)
    (hp : (params.posonlyargs ++ params.args).head? = some ar) (hN : N[0]? = some ar.arg) (hks : scope.names.lookup ("super" : Str) = some .globalImplicit) (hkc : scope.names.lookup ("__class__" : Str) = some .free) (hka : scope.names.lookup ar.arg = some .local)
    (len : ∀ vs H Q E, sp vs H Q E → vs.length = ps.length)
    (ha : ∀ (c : Addr) (A : Around) (outer : List Env) (s : Shared) (H : Hp) (E : XK), PA (NdefX.ncx CX0 P w K mg base N ⟨name, qual, params, body, scope, [("__class__", cc)], c⟩ f A outer s H E) (e :: es) ta)
    (hrest : ∀ (c : Addr) (A : Around) (outer : List Env) (s : Shared) (H : Hp) (E : XK), PSs (NdefX.ncx CX0 P w K mg base N ⟨name, qual, params, body, scope, [("__class__", cc)], c⟩ f A outer s H E) rest t1)
    (pl : Sem Bool) (hev : ∀ (cda L : Addr), eval (.Call (.Attribute (.Call (.Name "super" p0) [] [] p1) "__init__" p2) (e :: es) [] p4) (PySem.W.envX qual scope L f (.ref cda) [("__class__", cc)]) = (do
      let ov ← attributeBase (.Call (.Name "super" p0) [] [] p1) "__init__" (PySem.W.envX qual scope L f (.ref cda) [("__class__", cc)]) (eval (.Call (.Name "super" p0) [] [] p1) (PySem.W.envX qual scope L f (.ref cda) [("__class__", cc)]))
      standAt p2.atName
      let (f', first) ← holding [ov] (getMethod ov "__init__" pl)
      callWith p4 f' first (backTo p4 (starEach (e :: es) (PySem.W.envX qual scope L f (.ref cda) [("__class__", cc)]))) []))
    (hsw : ∀ (cda L : Addr), swapsWith (.Call (.Attribute (.Call (.Name "super" p0) [] [] p1) "__init__" p2) (e :: es) [] p4) none p5.line (PySem.W.envX qual scope L f (.ref cda) [("__class__", cc)]) = pure false)
    (hst : ∀ env : Env, starEach (e :: es) env = (false, eval e env) :: starEach es env) (hpl : ∀ env : Env, (backTo p4 (starEach es env)).any (·.1) = false)
    (hb : ∀ vs H Q E, sp vs H Q E → ∃ x dx fs us, vs = .ref x :: us ∧ H x = some (.ins C dx fs) ∧ ta (NdefX.startF N vs [none]) H fun zs H1 => spB (.ref x :: zs) H1 (fun _ H2 => t1 { nx := fun _ H' => Q .non H', rt := Q } (NdefX.startF N vs [none]) H2) E0) :
    FnOk P w K mg base CX0 (k + 1) f (PySem.W.fnX name qual params body scope [("__class__", cc)] dV kV doc pm an cdv ct) ps sp := by
  refine ⟨len, fun A outer s H args us vs Q E hr e0 hbind r hsp => ?_⟩
  obtain ⟨x, dx, fs, us', rfl, hx, hq⟩ := hb _ _ _ _ hsp
  have hl := len _ _ _ _ hsp
  have KX : K.In s.heap := e0.mod.kin.keeps fun b o e => (e0.bs b o e).1
  have lim : s.heap.NoLimit := e0.mod.nolimit.keeps fun b o e => (e0.bs b o e).1
  obtain ⟨cda, ccl, cdd, fvs, ccs, file, tf, rfl, hcda, hvs, hfile⟩ := SK.fil
  obtain ⟨cl, cld, csl, hcel⟩ := SK.cel
  obtain ⟨cd, hcls⟩ := SK.cls
  have hC : NdefX.CellsAt [(("__class__" : Str), cc)] ["__class__"] [none] s.heap H := by
    have hb0 := e0.bs cc _ (e0.mod.kin _ _ hcel)
    refine ⟨rfl, fun y c h => ?_, fun a b c h1 h2 => ?_, fun i y h => ?_⟩
    · simp only [List.lookup] at h
      split at h
      · cases h
        exact ⟨hb0.2, _, ⟨_, hb0.1, rfl⟩⟩
      · cases h
    · simp only [List.lookup] at h1 h2
      split at h1
      · rename_i q1
        split at h2
        · rename_i q2
          rw [beq_iff_eq.mp q1, beq_iff_eq.mp q2]
        · cases h2
      · cases h1
    · cases i with
      | zero =>
        have h := (Option.some.inj h).symm
        subst h
        exact ⟨cc, by simp [List.lookup], fun v h => by cases h⟩
      | succ i => simp at h
  refine ks_codeAny_call_defAt (fd := PySem.W.fnX name qual params body scope [("__class__", cc)] dV kV doc pm an (.ref cda) ct) (body := body) (binds := ps.zip us) hr.depth (KX _ _ lk) rfl lim (PySem.W.codeRec_of KX hcd) rfl hbind S.nocell (fun ⟨n, _⟩ hy => S.par n (List.of_mem_zip hy).1) (fun h₁ hns kp => ?_) S.co S.gen S.kind
  have I0 : Inv (NdefX.ncx CX0 P w K mg base N ⟨name, qual, params, body, scope, [("__class__", cc)], cda⟩ f A outer s H E) [] (NdefX.startF N (.ref x :: us') [none]) H { s with heap := h₁, toks := s.toks + (ps.zip us).length } := NdefX.inv_startN S hr.hd e0 hl r hC hns kp
  have ha := ha cda A outer s H E
  have hrest := hrest cda A outer s H E
  obtain ⟨m0, hns0, hlook⟩ := I0.loc
  have hself : m0 ar.arg = some (.ref x) := by
    obtain ⟨u, ru, hu⟩ := hlook 0 ar.arg (.ref x) hN rfl (.inl hka)
    obtain rfl : u = Value.ref x := ru
    rcases hu with ⟨_, h⟩ | ⟨h, _⟩
    · exact h
    · rcases h with h | h <;> exact absurd ((show scope.names.lookup ar.arg = _ from h).symm.trans hka) (by simp)
  obtain ⟨mA, O, _⟩ := ins_get I0.hok hx
  obtain ⟨od2, J, _⟩ := O.look
  have KX1 : K.In h₁ := I0.kIn
  obtain ⟨oD, hD1, hD2⟩ : ∃ oD, h₁.get? C = some oD ∧ oD.data = .cls cd := by
    unfold PySem.W.clsIn at hcls
    split at hcls
    · rename_i c d cd' sl ho
      cases hcls
      exact ⟨_, KX1 _ _ ho, rfl⟩
    · cases hcls
  obtain ⟨mb, hb1, hb2⟩ := I0.mod.blt
  have hsup : (("super" : Str) ≠ "__name__") := by decide
  refine ks_mono (Q := SP (NdefX.ncx CX0 P w K mg base N ⟨name, qual, params, body, scope, [("__class__", cc)], cda⟩ f A outer s H E) [] { nx := fun _ H' => Q .non H', rt := Q }) (E := (NdefX.ncx CX0 P w K mg base N ⟨name, qual, params, body, scope, [("__class__", cc)], cda⟩ f A outer s H E).xe) ?_ (fun fl s' hs => ?_) fun e s' hs => hs
  · rw [hbd]
    refine ks_wpAt_execs_cons (ks_wpAt_Expr_any (ks_wpAt_MethodCall ?_ (hev cda s.heap.objs.size)) (by show (scope.kind == _ && _) = false; rw [S.kind]; rfl) (hsw cda s.heap.objs.size))
    refine ks_wpAt_super_base hks hkc (by decide) rfl (KX1 _ _ lk) rfl hp rfl (KX1 _ _ hcda) rfl hvs (by rw [(PrOk.file : P.main.file = mainF)]; exact hfile) PrOk.top ?_
    refine PySem.W.ks_loadName_global S.kind hks (Calls.loadGlobal_builtin (I0.mod.glob.keeps I0.bk) hmg (hb1.keeps I0.bk) ((hb2 _ hsup).trans (by decide +kernel)) ⟨rfl, ?_⟩)
    refine wpAny_loadName_free S.kind hkc rfl ⟨_, KX1 _ _ hcel, rfl⟩ ?_
    refine wpAny_loadName_local S.kind hka hns0 hself ?_
    refine ks_wpAny_isType_cls hD1 hD2 ⟨rfl, ?_⟩
    refine ks_wpAny_call_super hD1 hD2 J.at_ J.cls (fun c e => ?_) (PySem.W.looks_mroIn KX1 SK.sub) (fun h2 e2 k2 => ?_)
    · have := J.no
      unfold PySem.W.notCls at this
      rw [e] at this
      exact Bool.noConfusion this
    have I1 := pin_new (t' := s.toks + (ps.zip us).length) I0 k2 (Nat.le_refl _) e2 (fun v z => nomatch z)
    have KX2 : K.In h2 := I1.kIn
    obtain ⟨of, hof, hofc⟩ : ∃ of, h2.get? (He.ma K B "__init__") = some of ∧ of.cls = .type "function" := by
      have ht' : (K.lookup (He.ma K B "__init__")).map (·.cls) = some (.type "function") := SK.ty
      cases z : K.lookup (He.ma K B "__init__") with
      | none => rw [z] at ht'; cases ht'
      | some of => rw [z] at ht'; exact ⟨of, KX2 _ _ z, Option.some.inj ht'⟩
    have hal : PySem.W.alongIn K "__init__" ((cd.mro.dropWhile (· != .ref C)).drop 1) = some (some (.ref (He.ma K B "__init__"))) := by
      have h := SK.at_
      unfold PySem.W.ks_superIn at h
      rw [hcls] at h
      exact h
    refine ks_wpAny_getMethod_super e2 (PySem.W.looks_opaque KX2 SK.opq) (l₀ := cd.mro) ?_ rfl KX2 hal hof hofc (PySem.W.ks_ne KX1 J hcls) (by decide) ?_
    · exact fun A Q E s k q => wpAny_bind ((PySem.W.looks_clsIn KX2 hcls) A _ E s k (wpAny_pure q))
    have I2 := met_new (g := He.ma K B "__init__") (C := x) I1
    refine callwith_cm I2 (base_none I1 (Nat.le_refl _)) SK.fi (thn (ha.run p4 _ _ _ H _ I2 hq) fun us3 s3 ⟨zs, H2, I3, rv, q2⟩ => ⟨⟨pin_at I3, I3.kIn⟩, ?_⟩) (hst _) (hpl _)
    refine thn (run_cm F (hr.deeper _) pass0 I3 rv q2) fun u s4 ⟨v, H4, I4, _, q4⟩ => ?_
    exact wpAt_of_wpAny (hrest.run [] s4 _ H4 _ (unpin I4) q4)
  · have fin : ∀ {σ' : L2.St} {H' : Hp} {v : V} {u : Value}, Inv (NdefX.ncx CX0 P w K mg base N ⟨name, qual, params, body, scope, [("__class__", cc)], cda⟩ f A outer s H E) [] σ' H' s' → L2.RelV v u → Q v H' → CE outer P w H s Q u s' :=
      fun {σ' H' v u} J rv q => ⟨v, H', J.os, J.bare, J.base, J.hok, rv, q⟩
    cases fl with
    | ret u =>
      obtain ⟨v, σ', H', J, rv, q⟩ := hs
      exact fin J rv q
    | next =>
      obtain ⟨σ', H', J, q⟩ := hs
      exact fin (v := V.non) (u := Value.none) J rfl q
    | brk =>
      obtain ⟨_, _, _, q⟩ := hs
      exact False.elim q
    | cont =>
      obtain ⟨_, _, _, q⟩ := hs
      exact False.elim q
--OVER ctl {'INIT': ('hc', 'hn_')}
def spCtlB (K : PySem.W.Frag) : Sp := fun vs H Q _ => ∃ (p dx C : Addr) (mss : Int), vs = [.ref p, .int mss] ∧ Cls K C ∧ NoAttr K C "cwnd" ∧ NoAttr K C "thresh" ∧ NoAttr K C "peak" ∧ NoAttr K C "prior" ∧ NoAttr K C "calm" ∧ 0 ≤ mss ∧ mss ≤ 100000 ∧ H p = some (.ins C dx []) ∧
  RI p (.ins C dx [("cwnd", .int (10 * mss)), ("thresh", .int 1073741824), ("peak", .int 0), ("prior", .int 0), ("calm", .int 0)]) H Q
abbrev N_Control___init__ : List Str := ["self", "mss"]
theorem sc_Control___init__ : FnScope N_Control___init__ ["self", "mss"] (defScope s_Control___init__) := ⟨rfl, rfl, rfl, by decide +kernel, rfl, by decide +kernel, by decide +kernel⟩
theorem fo_Control___init__ (W : Wld K mg) : ∃ fd, FnOk P w K mg base CX0 1 (pl_Control___init__.ad K) fd ["self", "mss"] (spCtlB K) ∧ FunD K "__init__" "Control.__init__" (defArgs s_Control___init__) (defBody s_Control___init__) (defScope s_Control___init__) [] [] (pl_Control___init__.ad K) fd := by
  obtain ⟨fd, F⟩ := W.d_Control___init__
  refine ⟨fd, F.ok sc_Control___init__ (fun vs H Q E h => ?_) (fun cdv A outer s H vs Q E hr h => ?_), F⟩
  · obtain ⟨p, dx, C, mss, rfl, hc, hn_cwnd, hn_thresh, hn_peak, hn_prior, hn_calm, m1, m2, z1, q⟩ := h; rfl
  · obtain ⟨p, dx, C, mss, rfl, hc, hn_cwnd, hn_thresh, hn_peak, hn_prior, hn_calm, m1, m2, z1, q⟩ := h
    have hu := hu_of hr
    refine ⟨_, PSs.nox (pss_cons (ps_ini hc hn_cwnd (pv 0) (pe_callB (call_min2 rfl) (by rfl) W.f_min bt_min (pa_cons (pe_op op_mul pe_int (pv 1)) (pa_cons (pe_ccon rfl W.g_Control W.r_Control W.k_Control_GREATEST) pa_nil))))
      (pss_cons (ps_ini hc hn_thresh (pv 0) (pe_ccon rfl W.g_Control W.r_Control W.k_Control_GREATEST))
      (pss_cons (ps_ini hc hn_peak (pv 0) pe_int)
      (pss_cons (ps_ini hc hn_prior (pv 0) pe_int)
      (pss_one (ps_ini hc hn_calm (pv 0) pe_int)))))), ?_⟩
    walk_at "s"
    have e0 : (if (1073741824 : Int) < 10 * mss then (1073741824 : Int) else 10 * mss) = 10 * mss := if_neg (by omega)
    rw [e0]
    exact q _ (by walk_at "kp") (by walk_at "ins")
theorem u_CtlB {p dx C : Addr} {mss : Int} {H : Hp} {Q : VK} (hc : Cls K C) (h1 : NoAttr K C "cwnd") (h2 : NoAttr K C "thresh") (h3 : NoAttr K C "peak") (h4 : NoAttr K C "prior") (h5 : NoAttr K C "calm") (m1 : 0 ≤ mss) (m2 : mss ≤ 100000) (h : H p = some (.ins C dx []))
  (q : RI p (.ins C dx [("cwnd", .int (10 * mss)), ("thresh", .int 1073741824), ("peak", .int 0), ("prior", .int 0), ("calm", .int 0)]) H Q) : spCtlB K [.ref p, .int mss] H Q E0 := ⟨p, dx, C, mss, rfl, hc, h1, h2, h3, h4, h5, m1, m2, h, q⟩
/-- a control as it is made -/
def ctlO (K : PySem.W.Frag) (cub : Bool) (cdx : Addr) (mss : Int) : HO := if cub = true then .ins (He.ga K "Cubic") cdx (RCubic.fs ⟨.int (10 * mss), .int 1073741824, .int 0, .int 0, .int 0, .non⟩)
  else .ins (He.ga K "Reno") cdx (RReno.fs ⟨.int (10 * mss), .int 1073741824, .int 0, .int 0, .int 0, .int 0⟩)
def spCtlI (K : PySem.W.Frag) (cub : Bool) : Sp := fun vs H Q _ => ∃ (p dx : Addr) (mss : Int), vs = [.ref p, .int mss] ∧ 0 ≤ mss ∧ mss ≤ 100000 ∧ H p = some (.ins (if cub = true then He.ga K "Cubic" else He.ga K "Reno") dx []) ∧ RI p (ctlO K cub dx mss) H Q
theorem ctl_raw (W : Wld K mg) : FnR P w K mg base CX0 1 (He.ma K (He.ga K "Control") "__init__") (spCtlB K) := by
  obtain ⟨fd, F1, F⟩ := fo_Control___init__ (P := P) (w := w) (base := base) W
  refine (F1.raw (F.bindsN fun _ _ _ _ _ _ us hl => match us, hl with | [_, _], _ => rfl) .nil).imp fun vs H Q E h => ?_
  rw [List.append_nil]
  exact h
theorem ok_Cubic_make (W : Wld K mg) : MkC P w K mg base "Cubic" (He.ga K "Cubic") 2 ["self", "mss"] [] (spCtlI K true) := by
  obtain ⟨oc, od, dV, kV, doc, pm, an, cdv, ct, osl, cc, lk, hcd, hD⟩ := W.d_Cubic___init__
  have SK := sup_ok W.su_Cubic lk rfl
  have hD : dV = .none := by
    rcases hD with ⟨_, h⟩ | ⟨h, _⟩
    · exact h
    · exact absurd rfl h
  subst hD
  refine ⟨⟨_, _, [], W.mk_Cubic, super_ok (N := ["self", "mss", "__class__"]) (ps := ["self", "mss"]) (sp := spCtlI K true) lk rfl hcd SK (NdefX.nscope_by (by decide +kernel)) W.f_super (ctl_raw W) rfl rfl (by decide +kernel) (by decide +kernel) (by decide +kernel) (fun vs H Q E h => ?_)
    (fun c A outer s H E => pa_cons (pv 1) pa_nil) (fun c A outer s H E => pss_one (ps_ini W.c_Cubic W.n_Cubic_period (pv 0) pe_non)) _ (fun _ _ => by rfl) (fun _ _ => by rfl) (fun _ => by rfl) (fun _ => by rfl) (fun vs H Q E h => ?_), W.g_Cubic, .all fun us hl => match us, hl with | [_, _], _ => rfl, .nil⟩⟩
  · obtain ⟨p, dx, mss, rfl, _⟩ := h
    rfl
  · obtain ⟨p, dx, mss, rfl, m1, m2, hp, q⟩ := h
    refine ⟨p, dx, [], [.int mss], rfl, hp, ?_⟩
    have hp : H p = some (.ins (He.ga K "Cubic") dx []) := hp
    have q : RI p (.ins (He.ga K "Cubic") dx (RCubic.fs ⟨.int (10 * mss), .int 1073741824, .int 0, .int 0, .int 0, .non⟩)) H Q := q
    walk_at "s"
    refine u_CtlB W.c_Cubic W.n_Cubic_cwnd W.n_Cubic_thresh W.n_Cubic_peak W.n_Cubic_prior W.n_Cubic_calm m1 m2 hp ?_
    walk_at "s"
    exact q _ (by walk_at "kp") (by walk_at "ins")
theorem ok_Reno_make (W : Wld K mg) : MkC P w K mg base "Reno" (He.ga K "Reno") 2 ["self", "mss"] [] (spCtlI K false) := by
  obtain ⟨oc, od, dV, kV, doc, pm, an, cdv, ct, osl, cc, lk, hcd, hD⟩ := W.d_Reno___init__
  have SK := sup_ok W.su_Reno lk rfl
  have hD : dV = .none := by
    rcases hD with ⟨_, h⟩ | ⟨h, _⟩
    · exact h
    · exact absurd rfl h
  subst hD
  refine ⟨⟨_, _, [], W.mk_Reno, super_ok (N := ["self", "mss", "__class__"]) (ps := ["self", "mss"]) (sp := spCtlI K false) lk rfl hcd SK (NdefX.nscope_by (by decide +kernel)) W.f_super (ctl_raw W) rfl rfl (by decide +kernel) (by decide +kernel) (by decide +kernel) (fun vs H Q E h => ?_)
    (fun c A outer s H E => pa_cons (pv 1) pa_nil) (fun c A outer s H E => pss_one (ps_ini W.c_Reno W.n_Reno_credit (pv 0) pe_int)) _ (fun _ _ => by rfl) (fun _ _ => by rfl) (fun _ => by rfl) (fun _ => by rfl) (fun vs H Q E h => ?_), W.g_Reno, .all fun us hl => match us, hl with | [_, _], _ => rfl, .nil⟩⟩
  · obtain ⟨p, dx, mss, rfl, _⟩ := h
    rfl
  · obtain ⟨p, dx, mss, rfl, m1, m2, hp, q⟩ := h
    refine ⟨p, dx, [], [.int mss], rfl, hp, ?_⟩
    have hp : H p = some (.ins (He.ga K "Reno") dx []) := hp
    have q : RI p (.ins (He.ga K "Reno") dx (RReno.fs ⟨.int (10 * mss), .int 1073741824, .int 0, .int 0, .int 0, .int 0⟩)) H Q := q
    walk_at "s"
    refine u_CtlB W.c_Reno W.n_Reno_cwnd W.n_Reno_thresh W.n_Reno_peak W.n_Reno_prior W.n_Reno_calm m1 m2 hp ?_
    walk_at "s"
    exact q _ (by walk_at "kp") (by walk_at "ins")
end
end
/-! part D5 -/
section
set_option maxHeartbeats 4000000
open PySem PySem.Spec PyProof.Rows L2 ClX

section
variable {P : Program} [PrOk P] {w : World} {K : PySem.W.Frag} {mg : Str → Option Value} {base : Heap}
theorem c_fldl {f : Str} {fs : List (Str × V)} {C a dx : Addr} {v : V} {H : Hp} {Rq : V → Prop} (h : H a = some (.ins C dx fs)) (c : Cls K C) (n : NoAttr K C f) (l : fs.lookup f = some v) (k : Rq v) :
    ∃ a' C' dx' fs' v', V.ref a = .ref a' ∧ H a' = some (.ins C' dx' fs') ∧ Cls K C' ∧ NoAttr K C' f ∧ fs'.lookup f = some v' ∧ Rq v' := ⟨a, C, dx, fs, v, rfl, h, c, n, l, k⟩
theorem c_fld {ta : TE} {f : Str} {σ : L2.St} {H : Hp} {Q : VK} (h : ta σ H fun x H1 => ∃ a C dx fs v, x = .ref a ∧ H1 a = some (.ins C dx fs) ∧ Cls K C ∧ NoAttr K C f ∧ fs.lookup f = some v ∧ Q v H1) : tFld K ta f σ H Q := h
local macro_rules | `(tactic| walk_at "s1") => `(tactic| first
  | (with_reducible refine c_fld ?_)
  | ((with_reducible refine' c_fldl ?k1 ?k2 ?k3 ?k4 ?k5); (case k1 => walk_at "look"); (case k2 => assumption); (case k3 => assumption); (case k4 => first | assumption | kernel_rfl)))
/-- min(max(t, a), b) -/
def bnd (t a b : Int) : Int := if b < (if t < a then a else t) then b else (if t < a then a else t)
def spBounded : Sp := fun vs H Q _ => ∃ (p C dx : Addr) (fs : List (Str × V)) (t a b : Int), vs = [.ref p, .int t] ∧ C = He.ga K "RoundTrip" ∧ H p = some (.ins C dx fs) ∧ fs.lookup ("least" : Str) = some (.int a) ∧ fs.lookup ("most" : Str) = some (.int b) ∧ Q (.int (bnd t a b)) H
abbrev N_RoundTrip_bounded : List Str := ["self", "ticks"]
theorem sc_RoundTrip_bounded : FnScope N_RoundTrip_bounded ["self", "ticks"] (defScope s_RoundTrip_bounded) := ⟨rfl, rfl, rfl, by decide +kernel, rfl, by decide +kernel, by decide +kernel⟩
theorem fo_RoundTrip_bounded (W : Wld K mg) : ∃ fd, FnOk P w K mg base CX0 1 (pl_RoundTrip_bounded.ad K) fd ["self", "ticks"] (spBounded (K := K)) ∧ FunD K "bounded" "RoundTrip.bounded" (defArgs s_RoundTrip_bounded) (defBody s_RoundTrip_bounded) (defScope s_RoundTrip_bounded) [] [] (pl_RoundTrip_bounded.ad K) fd := by
  obtain ⟨fd, F⟩ := W.d_RoundTrip_bounded
  refine ⟨fd, F.ok sc_RoundTrip_bounded (fun vs H Q E h => ?_) (fun cdv A outer s H vs Q E hr h => ?_), F⟩
  · obtain ⟨p, C, dx, fs, t, a, b, rfl, rfl, z1, z2, z3, q⟩ := h; rfl
  · obtain ⟨p, C, dx, fs, t, a, b, rfl, rfl, z1, z2, z3, q⟩ := h
    have hu := hu_of hr
    refine ⟨_, PSs.nox (pss_one (ps_ret (pe_callB (call_min2 rfl) (by rfl) W.f_min bt_min (pa_cons (pe_callB (call_max2 rfl) (by rfl) W.f_max bt_max (pa_cons (pv 1) (pa_cons (pe_fld (pv 0) rfl) pa_nil))) (pa_cons (pe_fld (pv 0) rfl) pa_nil))))), ?_⟩
    have c1 := W.c_RoundTrip
    have n1 := W.n_RoundTrip_least
    have n2 := W.n_RoundTrip_most
    walk_at "s"
    exact q
theorem ok_RoundTrip_bounded (W : Wld K mg) : MFn P w K mg base (He.ga K "RoundTrip") "bounded" 1 ["self", "ticks"] [] (spBounded (K := K)) := by
  obtain ⟨fd, F1, F⟩ := fo_RoundTrip_bounded (P := P) (w := w) (base := base) W
  exact ⟨⟨_, fd, [], W.c_RoundTrip, W.m_RoundTrip_bounded, F1, F.bindsN fun _ _ _ _ _ _ us hl => match us, hl with | [_, _], _ => rfl, .nil⟩⟩
theorem u_bounded {p dx : Addr} {fs : List (Str × V)} {t a b : Int} {H : Hp} {Q : VK} (h : H p = some (.ins (He.ga K "RoundTrip") dx fs)) (l1 : fs.lookup ("least" : Str) = some (.int a)) (l2 : fs.lookup ("most" : Str) = some (.int b)) (q : Q (.int (bnd t a b)) H) : spBounded (K := K) [.ref p, .int t] H Q E0 := ⟨p, _, dx, fs, t, a, b, rfl, rfl, h, l1, l2, q⟩
local macro_rules | `(tactic| walk_at "s1") => `(tactic| first
  | (show spBounded _ _ _ _; refine' u_bounded ?k1 ?k2 ?k3 ?k4; (case k1 => walk_at "look"); (case k2 => rfl); (case k3 => rfl)))
def spRoundTripI (K : PySem.W.Frag) : Sp := fun vs H Q _ => ∃ (p dx : Addr) (a b : Int), vs = [.ref p, .int a, .int b] ∧ H p = some (.ins (He.ga K "RoundTrip") dx []) ∧ RI p (.ins (He.ga K "RoundTrip") dx (RRoundTrip.fs ⟨.int a, .int b, .int 0, .int 0, .bl false, .int (bnd (4 * a) a b)⟩)) H Q
abbrev N_RoundTrip___init__ : List Str := ["self", "least", "most"]
theorem sc_RoundTrip___init__ : FnScope N_RoundTrip___init__ ["self", "least", "most"] (defScope s_RoundTrip___init__) := ⟨rfl, rfl, rfl, by decide +kernel, rfl, by decide +kernel, by decide +kernel⟩
theorem fo_RoundTrip___init__ (W : Wld K mg) : ∃ fd, FnOk P w K mg base CX0 2 (pl_RoundTrip___init__.ad K) fd ["self", "least", "most"] (spRoundTripI K) ∧ FunD K "__init__" "RoundTrip.__init__" (defArgs s_RoundTrip___init__) (defBody s_RoundTrip___init__) (defScope s_RoundTrip___init__) [] [] (pl_RoundTrip___init__.ad K) fd := by
  obtain ⟨fd, F⟩ := W.d_RoundTrip___init__
  refine ⟨fd, F.ok sc_RoundTrip___init__ (fun vs H Q E h => ?_) (fun cdv A outer s H vs Q E hr h => ?_), F⟩
  · obtain ⟨p, dx, a, b, rfl, z1, q⟩ := h; rfl
  · obtain ⟨p, dx, a, b, rfl, z1, q⟩ := h
    have hu := hu_of hr
    refine ⟨_, PSs.nox (pss_cons (ps_ini W.c_RoundTrip W.n_RoundTrip_least (pv 0) (pv 1))
      (pss_cons (ps_ini W.c_RoundTrip W.n_RoundTrip_most (pv 0) (pv 2))
      (pss_cons (ps_ini W.c_RoundTrip W.n_RoundTrip_srtt (pv 0) pe_int)
      (pss_cons (ps_ini W.c_RoundTrip W.n_RoundTrip_variance (pv 0) pe_int)
      (pss_cons (ps_ini W.c_RoundTrip W.n_RoundTrip_measured (pv 0) pe_bl)
      (pss_one (ps_ini W.c_RoundTrip W.n_RoundTrip_rto (pv 0) (pe_mt (ok_RoundTrip_bounded (P := P) (K := K) W) (hr.mono (by decide)) (pv 0) (pa_cons (pe_op op_mul pe_int (pv 1)) pa_nil))))))))), ?_⟩
    walk_at "s"
    exact q _ (by walk_at "kp") (by walk_at "ins")
theorem ok_RoundTrip_make (W : Wld K mg) : MkC P w K mg base "RoundTrip" (He.ga K "RoundTrip") 2 ["self", "least", "most"] [] (spRoundTripI K) := by
  obtain ⟨fd, F1, F⟩ := fo_RoundTrip___init__ (P := P) (w := w) (base := base) W
  exact ⟨⟨_, fd, [], W.mk_RoundTrip, F1, W.g_RoundTrip, F.bindsN fun _ _ _ _ _ _ us hl => match us, hl with | [_, _, _], _ => rfl, .nil⟩⟩
theorem u_RoundTripI {p dx : Addr} {a b : Int} {H : Hp} {Q : VK} (h : H p = some (.ins (He.ga K "RoundTrip") dx [])) (q : RI p (.ins (He.ga K "RoundTrip") dx (RRoundTrip.fs ⟨.int a, .int b, .int 0, .int 0, .bl false, .int (bnd (4 * a) a b)⟩)) H Q) : spRoundTripI K [.ref p, .int a, .int b] H Q E0 := ⟨p, dx, a, b, rfl, h, q⟩
theorem OptD.is_cubic (o : OptD) : decide (V.str o.ctl = V.str "cubic") = o.cubic := by
  unfold OptD.ctl
  cases o.cubic <;> rfl
theorem u_CtlI {cub : Bool} {p dx : Addr} {mss : Int} {H : Hp} {Q : VK} (m1 : 0 ≤ mss) (m2 : mss ≤ 100000) (h : H p = some (.ins (if cub = true then He.ga K "Cubic" else He.ga K "Reno") dx [])) (q : RI p (ctlO K cub dx mss) H Q) : spCtlI K cub [.ref p, .int mss] H Q E0 := ⟨p, dx, mss, rfl, m1, m2, h, q⟩
theorem u_CubicI {p dx : Addr} {mss : Int} {H : Hp} {Q : VK} (m1 : 0 ≤ mss) (m2 : mss ≤ 100000) (h : H p = some (.ins (He.ga K "Cubic") dx [])) (q : RI p (ctlO K true dx mss) H Q) : spCtlI K true [.ref p, .int mss] H Q E0 := u_CtlI m1 m2 h q
theorem u_RenoI {p dx : Addr} {mss : Int} {H : Hp} {Q : VK} (m1 : 0 ≤ mss) (m2 : mss ≤ 100000) (h : H p = some (.ins (He.ga K "Reno") dx [])) (q : RI p (ctlO K false dx mss) H Q) : spCtlI K false [.ref p, .int mss] H Q E0 := u_CtlI m1 m2 h q
/-- a control is handed back -/
def RCtl (K : PySem.W.Frag) (cub : Bool) (mss : Int) (H : Hp) (Q : VK) : Prop := ∀ c dx H2, H c = none → Same H H2 → H2 c = some (ctlO K cub dx mss) → Q (.ref c) H2
theorem c_RCtl {cub : Bool} {mss : Int} {H : Hp} {Q : VK} (k : ∀ c dx H2, H c = none → Same H H2 → H2 c = some (ctlO K cub dx mss) → Q (.ref c) H2) : RCtl K cub mss H Q := k
local macro_rules | `(tactic| walk_at "s1") => `(tactic| first
  | (show spRoundTripI _ _ _ _ _; refine' u_RoundTripI ?k1 ?k2; (case k1 => walk_at "look"))
  | (show spCtlI _ true _ _ _ _; refine' u_CubicI ?k1 ?k2 ?k3 ?k4; (case k1 => omega); (case k2 => omega); (case k3 => walk_at "look"))
  | (show spCtlI _ false _ _ _ _; refine' u_RenoI ?k1 ?k2 ?k3 ?k4; (case k1 => omega); (case k2 => omega); (case k3 => walk_at "look")))
def spMkCtl (K : PySem.W.Frag) : Sp := fun vs H Q _ => ∃ (p dx : Addr) (o : OptD) (mss : Int), vs = [.ref p, .int mss] ∧ 0 ≤ mss ∧ mss ≤ 100000 ∧ H p = some (.ins (He.ga K "Options") dx (ROptions.fs o.r)) ∧ RCtl K o.cubic mss H Q
abbrev N_make_control : List Str := ["options", "mss"]
theorem sc_make_control : FnScope N_make_control ["options", "mss"] (defScope s_make_control) := ⟨rfl, rfl, rfl, by decide +kernel, rfl, by decide +kernel, by decide +kernel⟩
theorem fo_make_control (W : Wld K mg) : ∃ fd, FnOk P w K mg base CX0 5 (pl_make_control.ad K) fd ["options", "mss"] (spMkCtl K) ∧ FunD K "make_control" "make_control" (defArgs s_make_control) (defBody s_make_control) (defScope s_make_control) [] [] (pl_make_control.ad K) fd := by
  obtain ⟨fd, F⟩ := W.d_make_control
  refine ⟨fd, F.ok sc_make_control (fun vs H Q E h => ?_) (fun cdv A outer s H vs Q E hr h => ?_), F⟩
  · obtain ⟨p, dx, o, mss, rfl, m1, m2, z1, q⟩ := h; rfl
  · obtain ⟨p, dx, o, mss, rfl, m1, m2, z1, q⟩ := h
    have hu := hu_of hr
    refine ⟨_, PSs.nox (pss_cons (ps_if (pt_cmpR op_eq (pe_get W.c_Options W.n_Options_control ROptions.l_control (pv 0)) pe_str (nomark _)) (pss_one (ps_ret (pe_mk (ok_Cubic_make (P := P) (K := K) W) (hr.mono (by decide)) (by rfl) (pa_cons (pv 1) pa_nil)))) pss_nil)
      (pss_one (ps_ret (pe_mk (ok_Reno_make (P := P) (K := K) W) (hr.mono (by decide)) (by rfl) (pa_cons (pv 1) pa_nil))))), ?_⟩
    walk_at "s"
    cases hq : o.cubic
    · refine br_f (by rw [OptD.is_cubic, hq]) ?_
      rw [hq] at q
      walk_at "s"
      exact q _ _ _ (by walk_at "fresh") (by walk_at "same") (by walk_at "look")
    · refine br_t (by rw [OptD.is_cubic, hq]) ?_
      rw [hq] at q
      walk_at "s"
      exact q _ _ _ (by walk_at "fresh") (by walk_at "same") (by walk_at "look")
theorem ok_make_control (W : Wld K mg) : GFn P w K mg base "make_control" 5 ["options", "mss"] (spMkCtl K) := by
  obtain ⟨fd, F1, F⟩ := fo_make_control (P := P) (w := w) (base := base) W
  exact ⟨⟨_, fd, F1, W.g_make_control, F.kp, F.bindsN fun _ _ _ _ _ _ us hl => match us, hl with | [_, _], _ => rfl⟩⟩
theorem u_MkCtl {p dx : Addr} {o : OptD} {mss : Int} {H : Hp} {Q : VK} (m1 : 0 ≤ mss) (m2 : mss ≤ 100000) (h : H p = some (.ins (He.ga K "Options") dx (ROptions.fs o.r))) (q : RCtl K o.cubic mss H Q) : spMkCtl K [.ref p, .int mss] H Q E0 := ⟨p, dx, o, mss, rfl, m1, m2, h, q⟩
/-- the addresses of an endpoint -/
structure EA where
  e : Addr
  ed : Addr
  s : Addr
  sd : Addr
  r : Addr
  rd : Addr
  t : Addr
  td : Addr
  c : Addr
  cd : Addr
  q : Addr
  k : Addr
  y : Addr
  h : Addr
/-- what an endpoint holds -/
structure EndD where
  nxt : Int
  octs : List Int
  fin : Bool
  ab : Bool
  alarm : V
  since : Int
  at_ : Int
def EndD.ph (d : EndD) : Str := if d.ab = true then "ended" else "syn sent"
def EndD.cau (d : EndD) : V := if d.ab = true then .str "aborted" else .non
def OptD.wait (o : OptD) : Int := bnd (4 * o.mn) o.mn o.mx
abbrev EndD.rE (d : EndD) (o : OptD) (oa : Addr) (A : EA) : REndpoint := ⟨.ref oa, .ref A.s, .ref A.r, .ref A.t, .ref A.c, .str d.ph, d.cau, .int o.mss, .bl false, d.alarm, .int d.since, .non, .int 0, .bl false, .bl false, .bl false, .bl false, .int 0, .int d.at_, .int 0, .int 0, .bl false, .bl false⟩
abbrev EndD.rS (d : EndD) (o : OptD) (A : EA) : RSender := ⟨.int o.room, .int 0, .int d.nxt, .int d.octs.length, .bl d.fin, .int 1, .non, .int 0, .int 0, .int 0, .ref A.q, .ref A.k⟩
abbrev OptD.rR (o : OptD) (A : EA) : RReceiver := ⟨.int o.room, .int 0, .int (o.room + 1), .non, .int 0, .ref A.y, .ref A.h⟩
abbrev OptD.rT (o : OptD) : RRoundTrip := ⟨.int o.mn, .int o.mx, .int 0, .int 0, .bl false, .int o.wait⟩
/-- nothing of an endpoint stands under another's address -/
structure EA.Ap (A : EA) : Prop where
  se : A.s ≠ A.e
  re : A.r ≠ A.e
  te : A.t ≠ A.e
  ce : A.c ≠ A.e
  qe : A.q ≠ A.e
  ke : A.k ≠ A.e
  ye : A.y ≠ A.e
  he : A.h ≠ A.e
  rs : A.r ≠ A.s
  ts : A.t ≠ A.s
  cs : A.c ≠ A.s
  qs : A.q ≠ A.s
  ks : A.k ≠ A.s
  ys : A.y ≠ A.s
  hs : A.h ≠ A.s
structure EndOK (K : PySem.W.Frag) (H : Hp) (oa : Addr) (o : OptD) (A : EA) (d : EndD) : Prop where
  e : H A.e = some (.ins (He.ga K "Endpoint") A.ed (REndpoint.fs (d.rE o oa A)))
  s : H A.s = some (.ins (He.ga K "Sender") A.sd (RSender.fs (d.rS o A)))
  r : H A.r = some (.ins (He.ga K "Receiver") A.rd (RReceiver.fs (o.rR A)))
  t : H A.t = some (.ins (He.ga K "RoundTrip") A.td (RRoundTrip.fs o.rT))
  c : H A.c = some (ctlO K o.cubic A.cd o.mss)
  q : H A.q = some (.lst (nis d.octs))
  k : H A.k = some (.lst [])
  y : H A.y = some (.lst [])
  h : H A.h = some (.dK [])
/-- all but the endpoint's own address is new -/
structure EA.New (A : EA) (H : Hp) : Prop where
  s : H A.s = none
  r : H A.r = none
  t : H A.t = none
  c : H A.c = none
  q : H A.q = none
  k : H A.k = none
  y : H A.y = none
  h : H A.h = none
def REnd (K : PySem.W.Frag) (p oa : Addr) (o : OptD) (now : Int) (H : Hp) (Q : VK) : Prop := ∀ A H2, A.e = p → A.New H → A.Ap → Kp [p] H H2 → EndOK K H2 oa o A ⟨0, [], false, false, .non, now, now⟩ → Q .non H2
def spEndI (K : PySem.W.Frag) : Sp := fun vs H Q _ => ∃ (p dx oa od : Addr) (o : OptD) (now : Int), vs = [.ref p, .ref oa, .int now] ∧ H p = some (.ins (He.ga K "Endpoint") dx []) ∧ oa ≠ p ∧ H oa = some (.ins (He.ga K "Options") od (ROptions.fs o.r)) ∧ 0 ≤ o.mss ∧ o.mss ≤ 100000 ∧ REnd K p oa o now H Q
local macro_rules | `(tactic| walk_at "s1") => `(tactic| first
  | (show spMkCtl _ _ _ _ _; refine' u_MkCtl ?k1 ?k2 ?k3 ?k4; (case k1 => omega); (case k2 => omega); (case k3 => walk_at "look"))
  | ((with_reducible refine c_RCtl ?_); intro c9 d9 H9 f9 e9 h9)
  | (show spSenderI _ _ _ _ _ _; refine' u_SenderI ?k1 ?k2; (case k1 => walk_at "look"))
  | (show spReceiverI _ _ _ _ _ _; refine' u_ReceiverI ?k1 ?k2; (case k1 => walk_at "look")))
abbrev N_Endpoint___init__ : List Str := ["self", "options", "now"]
theorem sc_Endpoint___init__ : FnScope N_Endpoint___init__ ["self", "options", "now"] (defScope s_Endpoint___init__) := ⟨rfl, rfl, rfl, by decide +kernel, rfl, by decide +kernel, by decide +kernel⟩
theorem fo_Endpoint___init__ (W : Wld K mg) : ∃ fd, FnOk P w K mg base CX0 6 (pl_Endpoint___init__.ad K) fd ["self", "options", "now"] (spEndI K) ∧ FunD K "__init__" "Endpoint.__init__" (defArgs s_Endpoint___init__) (defBody s_Endpoint___init__) (defScope s_Endpoint___init__) [] [] (pl_Endpoint___init__.ad K) fd := by
  obtain ⟨fd, F⟩ := W.d_Endpoint___init__
  refine ⟨fd, F.ok sc_Endpoint___init__ (fun vs H Q E h => ?_) (fun cdv A outer s H vs Q E hr h => ?_), F⟩
  · obtain ⟨p, dx, oa, od, o, now, rfl, z1, z2, z3, m1, m2, q⟩ := h; rfl
  · obtain ⟨p, dx, oa, od, o, now, rfl, z1, z2, z3, m1, m2, q⟩ := h
    have hu := hu_of hr
    refine ⟨_, PSs.nox (pss_cons (ps_ini W.c_Endpoint W.n_Endpoint_options (pv 0) (pv 1))
      (pss_cons (ps_ini W.c_Endpoint W.n_Endpoint_sender (pv 0) (pe_mk (ok_Sender_make (P := P) (K := K) W) (hr.mono (by decide)) (by rfl) (pa_cons (pe_get W.c_Options W.n_Options_room ROptions.l_room (pv 1)) pa_nil)))
      (pss_cons (ps_ini W.c_Endpoint W.n_Endpoint_receiver (pv 0) (pe_mk (ok_Receiver_make (P := P) (K := K) W) (hr.mono (by decide)) (by rfl) (pa_cons (pe_get W.c_Options W.n_Options_room ROptions.l_room (pv 1)) pa_nil)))
      (pss_cons (ps_ini W.c_Endpoint W.n_Endpoint_trip (pv 0) (pe_mk (ok_RoundTrip_make (P := P) (K := K) W) (hr.mono (by decide)) (by rfl) (pa_cons (pe_get W.c_Options W.n_Options_min_rto ROptions.l_min_rto (pv 1)) (pa_cons (pe_get W.c_Options W.n_Options_max_rto ROptions.l_max_rto (pv 1)) pa_nil))))
      (pss_cons (ps_ini W.c_Endpoint W.n_Endpoint_control (pv 0) (pe_fn (ok_make_control (P := P) (K := K) W) (hr.mono (by decide)) (by rfl) (pa_cons (pv 1) (pa_cons (pe_get W.c_Options W.n_Options_mss ROptions.l_mss (pv 1)) pa_nil))))
      (pss_cons (ps_ini W.c_Endpoint W.n_Endpoint_phase (pv 0) pe_str)
      (pss_cons (ps_ini W.c_Endpoint W.n_Endpoint_cause (pv 0) pe_non)
      (pss_cons (ps_ini W.c_Endpoint W.n_Endpoint_mss (pv 0) (pe_get W.c_Options W.n_Options_mss ROptions.l_mss (pv 1)))
      (pss_cons (ps_ini W.c_Endpoint W.n_Endpoint_selective (pv 0) pe_bl)
      (pss_cons (ps_ini W.c_Endpoint W.n_Endpoint_alarm (pv 0) pe_non)
      (pss_cons (ps_ini W.c_Endpoint W.n_Endpoint_since (pv 0) (pv 2))
      (pss_cons (ps_ini W.c_Endpoint W.n_Endpoint_ack_at (pv 0) pe_non)
      (pss_cons (ps_ini W.c_Endpoint W.n_Endpoint_late (pv 0) pe_int)
      (pss_cons (ps_ini W.c_Endpoint W.n_Endpoint_asked (pv 0) pe_bl)
      (pss_cons (ps_ini W.c_Endpoint W.n_Endpoint_again (pv 0) pe_bl)
      (pss_cons (ps_ini W.c_Endpoint W.n_Endpoint_probe (pv 0) pe_bl)
      (pss_cons (ps_ini W.c_Endpoint W.n_Endpoint_over (pv 0) pe_bl)
      (pss_cons (ps_ini W.c_Endpoint W.n_Endpoint_rest (pv 0) pe_int)
      (pss_cons (ps_ini W.c_Endpoint W.n_Endpoint_spent_at (pv 0) (pv 2))
      (pss_cons (ps_ini W.c_Endpoint W.n_Endpoint_spent (pv 0) pe_int)
      (pss_cons (ps_ini W.c_Endpoint W.n_Endpoint_stamp (pv 0) pe_int)
      (pss_cons (ps_ini W.c_Endpoint W.n_Endpoint_marked (pv 0) pe_bl)
      (pss_one (ps_ini W.c_Endpoint W.n_Endpoint_cut (pv 0) pe_bl)))))))))))))))))))))))), ?_⟩
    walk_at "s"
    rename_i sx sd fsx fsd ns q9 k9 H1 fq fk n1 n2 n3 e1 h1 hq hk rx rd frx frd nr y9 h9 H2 fy fh n4 n5 n6 e2 h2 hy hh tx td ftx ftd nt H3 e3 h3 c9 cd H4 fc e4 h4
    refine q ⟨p, dx, sx, sd, rx, rd, tx, td, c9, cd, q9, k9, y9, h9⟩ _ rfl ⟨?_, ?_, ?_, ?_, ?_, ?_, ?_, ?_⟩ ⟨?_, ?_, ?_, ?_, ?_, ?_, ?_, ?_, ?_, ?_, ?_, ?_, ?_, ?_, ?_⟩ ?_ ⟨?_, ?_, ?_, ?_, ?_, ?_, ?_, ?_, ?_⟩
    · walk_at "fresh"
    · walk_at "fresh"
    · walk_at "fresh"
    · walk_at "fresh"
    · walk_at "fresh"
    · walk_at "fresh"
    · walk_at "fresh"
    · walk_at "fresh"
    · walk_at "ne"
    · walk_at "ne"
    · walk_at "ne"
    · walk_at "ne"
    · walk_at "ne"
    · walk_at "ne"
    · walk_at "ne"
    · walk_at "ne"
    · walk_at "ne"
    · walk_at "ne"
    · walk_at "ne"
    · walk_at "ne"
    · walk_at "ne"
    · walk_at "ne"
    · walk_at "ne"
    · walk_at "kp"
    · walk_at "ins"
    · walk_at "ins"
    · walk_at "ins"
    · walk_at "ins"
    · walk_at "look"
    · walk_at "rl"
    · walk_at "look"
    · walk_at "look"
    · walk_at "look"
theorem ok_Endpoint_make (W : Wld K mg) : MkC P w K mg base "Endpoint" (He.ga K "Endpoint") 6 ["self", "options", "now"] [] (spEndI K) := by
  obtain ⟨fd, F1, F⟩ := fo_Endpoint___init__ (P := P) (w := w) (base := base) W
  exact ⟨⟨_, fd, [], W.mk_Endpoint, F1, W.g_Endpoint, F.bindsN fun _ _ _ _ _ _ us hl => match us, hl with | [_, _, _], _ => rfl, .nil⟩⟩
end
end
/-! part D6 -/
section
set_option maxHeartbeats 4000000
open PySem PySem.Spec PyProof.Rows L2 ClX

section
variable {P : Program} [PrOk P] {w : World} {K : PySem.W.Frag} {mg : Str → Option Value} {base : Heap}
def spCInside : Sp := fun vs H Q _ => ∃ (a : Addr) (i j : Int), vs = [.ref a, .int i, .int j] ∧ H a = some (.lst []) ∧ Q (.int 0) H
abbrev N_count_inside : List Str := ["ranges", "start", "stop", "count", "first", "last"]
theorem sc_count_inside : FnScope N_count_inside ["ranges", "start", "stop"] (defScope s_count_inside) := ⟨rfl, rfl, rfl, by decide +kernel, rfl, by decide +kernel, by decide +kernel⟩
theorem fo_count_inside (W : Wld K mg) : ∃ fd, FnOk P w K mg base CX0 1 (pl_count_inside.ad K) fd ["ranges", "start", "stop"] spCInside ∧ FunD K "count_inside" "count_inside" (defArgs s_count_inside) (defBody s_count_inside) (defScope s_count_inside) [] [] (pl_count_inside.ad K) fd := by
  obtain ⟨fd, F⟩ := W.d_count_inside
  refine ⟨fd, F.ok sc_count_inside (fun vs H Q E h => ?_) (fun cdv A outer s H vs Q E hr h => ?_), F⟩
  · obtain ⟨a, i, j, rfl, z1, q⟩ := h; rfl
  · obtain ⟨a, i, j, rfl, z1, q⟩ := h
    have hu := hu_of hr
    refine ⟨_, PSs.nox (pss_cons (ps_set (i := 3) sc_count_inside.nd rfl (Or.inl rfl) pe_int)
      (pss_cons (ps_for PassesOwn.never rfl (pi_list (pv 0)) (pg_tup (n := 2) rfl (pgs_cons (pg_name (i := 4) sc_count_inside.nd rfl (Or.inl rfl)) (pgs_cons (pg_name (i := 5) sc_count_inside.nd rfl (Or.inl rfl)) pgs_nil))) (pss_one (ps_set (i := 3) sc_count_inside.nd rfl (Or.inl rfl) (pe_op op_add (pv 3) (pe_callB (call_max2 rfl) (by rfl) W.f_max bt_max (pa_cons pe_int (pa_cons (pe_op op_sub (pe_callB (call_min2 rfl) (by rfl) W.f_min bt_min (pa_cons (pv 5) (pa_cons (pv 2) pa_nil))) (pe_callB (call_max2 rfl) (by rfl) W.f_max bt_max (pa_cons (pv 4) (pa_cons (pv 1) pa_nil)))) pa_nil)))))))
      (pss_one (ps_ret (pv 3))))), ?_⟩
    walk_at "s"
    refine c_loopL (xs := []) (fun i σ H' => H' = H ∧ σ[3]? = some (some (.int 0))) ?_ ?_ ?_ ?_
    · exact ⟨rfl, rfl⟩
    · rintro i σ H' ⟨rfl, _⟩
      exact z1
    · rintro i x σ H' hx
      simp at hx
    · rintro σ H' ⟨rfl, e⟩
      walk_at "s"
      exact ⟨_, e, q⟩
theorem ok_count_inside (W : Wld K mg) : GFn P w K mg base "count_inside" 1 ["ranges", "start", "stop"] spCInside := by
  obtain ⟨fd, F1, F⟩ := fo_count_inside (P := P) (w := w) (base := base) W
  exact ⟨⟨_, fd, F1, W.g_count_inside, F.kp, F.bindsN fun _ _ _ _ _ _ us hl => match us, hl with | [_, _, _], _ => rfl⟩⟩
theorem u_CInside {a : Addr} {i j : Int} {H : Hp} {Q : VK} (h : H a = some (.lst [])) (q : Q (.int 0) H) : spCInside [.ref a, .int i, .int j] H Q E0 := ⟨a, i, j, rfl, h, q⟩
def spFFree : Sp := fun vs H Q _ => ∃ (a : Addr) (i : Int), vs = [.ref a, .int i] ∧ H a = some (.lst []) ∧ Q (.int i) H
abbrev N_first_free : List Str := ["ranges", "start", "first", "last"]
theorem sc_first_free : FnScope N_first_free ["ranges", "start"] (defScope s_first_free) := ⟨rfl, rfl, rfl, by decide +kernel, rfl, by decide +kernel, by decide +kernel⟩
theorem fo_first_free (W : Wld K mg) : ∃ fd, FnOk P w K mg base CX0 1 (pl_first_free.ad K) fd ["ranges", "start"] spFFree ∧ FunD K "first_free" "first_free" (defArgs s_first_free) (defBody s_first_free) (defScope s_first_free) [] [] (pl_first_free.ad K) fd := by
  obtain ⟨fd, F⟩ := W.d_first_free
  refine ⟨fd, F.ok sc_first_free (fun vs H Q E h => ?_) (fun cdv A outer s H vs Q E hr h => ?_), F⟩
  · obtain ⟨a, i, rfl, z1, q⟩ := h; rfl
  · obtain ⟨a, i, rfl, z1, q⟩ := h
    have hu := hu_of hr
    refine ⟨_, PSs.nox (pss_cons (ps_for PassesOwn.never rfl (pi_list (pv 0)) (pg_tup (n := 2) rfl (pgs_cons (pg_name (i := 2) sc_first_free.nd rfl (Or.inl rfl)) (pgs_cons (pg_name (i := 3) sc_first_free.nd rfl (Or.inl rfl)) pgs_nil))) (pss_one (ps_if (pt_chain op_le op_lt (pv 2) (pv 1) (pv 3)) (pss_one (ps_ret (pv 3))) pss_nil)))
      (pss_one (ps_ret (pv 1)))), ?_⟩
    walk_at "s"
    refine c_loopL (xs := []) (fun k σ H' => H' = H ∧ σ[1]? = some (some (.int i))) ?_ ?_ ?_ ?_
    · exact ⟨rfl, rfl⟩
    · rintro i σ H' ⟨rfl, _⟩
      exact z1
    · rintro i x σ H' hx
      simp at hx
    · rintro σ H' ⟨rfl, e⟩
      walk_at "s"
      exact ⟨_, e, q⟩
theorem ok_first_free (W : Wld K mg) : GFn P w K mg base "first_free" 1 ["ranges", "start"] spFFree := by
  obtain ⟨fd, F1, F⟩ := fo_first_free (P := P) (w := w) (base := base) W
  exact ⟨⟨_, fd, F1, W.g_first_free, F.kp, F.bindsN fun _ _ _ _ _ _ us hl => match us, hl with | [_, _], _ => rfl⟩⟩
theorem u_FFree {a : Addr} {i : Int} {H : Hp} {Q : VK} (h : H a = some (.lst [])) (q : Q (.int i) H) : spFFree [.ref a, .int i] H Q E0 := ⟨a, i, rfl, h, q⟩
/-- the sender at A.s -/
abbrev SAt (K : PySem.W.Frag) (H : Hp) (o : OptD) (A : EA) (d : EndD) : Prop := H A.s = some (.ins (He.ga K "Sender") A.sd (RSender.fs (d.rS o A)))
def spFlight (K : PySem.W.Frag) : Sp := fun vs H Q _ => ∃ (o : OptD) (A : EA) (d : EndD), vs = [.ref A.s] ∧ SAt K H o A d ∧ Q (.int (d.nxt - 0)) H
abbrev N_Sender_flight : List Str := ["self"]
theorem sc_Sender_flight : FnScope N_Sender_flight ["self"] (defScope s_Sender_flight) := ⟨rfl, rfl, rfl, by decide +kernel, rfl, by decide +kernel, by decide +kernel⟩
theorem fo_Sender_flight (W : Wld K mg) : ∃ fd, FnOk P w K mg base CX0 1 (pl_Sender_flight.ad K) fd ["self"] (spFlight K) ∧ FunD K "flight" "Sender.flight" (defArgs s_Sender_flight) (defBody s_Sender_flight) (defScope s_Sender_flight) [] [] (pl_Sender_flight.ad K) fd := by
  obtain ⟨fd, F⟩ := W.d_Sender_flight
  refine ⟨fd, F.ok sc_Sender_flight (fun vs H Q E h => ?_) (fun cdv A outer s H vs Q E hr h => ?_), F⟩
  · obtain ⟨o, A', d, rfl, z1, q⟩ := h; rfl
  · obtain ⟨o, A', d, rfl, z1, q⟩ := h
    have hu := hu_of hr
    refine ⟨_, PSs.nox (pss_one (ps_ret (pe_op op_sub (pe_get W.c_Sender W.n_Sender_nxt RSender.l_nxt (pv 0)) (pe_get W.c_Sender W.n_Sender_una RSender.l_una (pv 0))))), ?_⟩
    walk_at "s"
    exact q
theorem ok_Sender_flight (W : Wld K mg) : PFn P w K mg base (He.ga K "Sender") "flight" 1 (spFlight K) := by
  obtain ⟨fd, F1, F⟩ := fo_Sender_flight (P := P) (w := w) (base := base) W
  exact ⟨⟨_, _, fd, W.c_Sender, W.p_Sender_flight, F1, F.bindsN fun _ _ _ _ _ _ us hl => match us, hl with | [_], _ => rfl⟩⟩
theorem u_Flight {o : OptD} {A : EA} {d : EndD} {H : Hp} {Q : VK} (h : SAt K H o A d) (q : Q (.int (d.nxt - 0)) H) : spFlight K [.ref A.s] H Q E0 := ⟨o, A, d, rfl, h, q⟩
def tNv : TE := fun _ _ _ => False
theorem pe_nv {X : Cx} {e : Expr} : PE X e tNv := ⟨fun _ _ _ _ _ _ h => h.elim⟩
local macro_rules | `(tactic| walk_at "s1") => `(tactic| first
  | (show spFlight _ _ _ _ _; refine' u_Flight ?k1 ?k2; (case k1 => walk_at "look"))
  | (show spCInside _ _ _ _; refine' u_CInside ?k1 ?k2; (case k1 => walk_at "look"))
  | (show spFFree _ _ _ _; refine' u_FFree ?k1 ?k2; (case k1 => walk_at "look")))
def spAllDone (K : PySem.W.Frag) : Sp := fun vs H Q _ => ∃ (o : OptD) (A : EA) (d : EndD), vs = [.ref A.s] ∧ SAt K H o A d ∧ Q (.bl false) H
abbrev N_Sender_all_done : List Str := ["self"]
theorem sc_Sender_all_done : FnScope N_Sender_all_done ["self"] (defScope s_Sender_all_done) := ⟨rfl, rfl, rfl, by decide +kernel, rfl, by decide +kernel, by decide +kernel⟩
theorem fo_Sender_all_done (W : Wld K mg) : ∃ fd, FnOk P w K mg base CX0 1 (pl_Sender_all_done.ad K) fd ["self"] (spAllDone K) ∧ FunD K "all_done" "Sender.all_done" (defArgs s_Sender_all_done) (defBody s_Sender_all_done) (defScope s_Sender_all_done) [] [] (pl_Sender_all_done.ad K) fd := by
  obtain ⟨fd, F⟩ := W.d_Sender_all_done
  refine ⟨fd, F.ok sc_Sender_all_done (fun vs H Q E h => ?_) (fun cdv A outer s H vs Q E hr h => ?_), F⟩
  · obtain ⟨o, A', d, rfl, z1, q⟩ := h; rfl
  · obtain ⟨o, A', d, rfl, z1, q⟩ := h
    have hu := hu_of hr
    refine ⟨_, PSs.nox (pss_one (ps_ret (pe_and (pe_get W.c_Sender W.n_Sender_finished RSender.l_finished (pv 0)) (pe_one (pe_cmpR op_eq (pe_get W.c_Sender W.n_Sender_una RSender.l_una (pv 0)) (pe_op op_add (pe_get W.c_Sender W.n_Sender_written RSender.l_written (pv 0)) pe_int) (nomark _)))))), ?_⟩
    walk_at "s"
    refine br_2 (fun e => ?_) (fun e => ?_)
    · walk_at "s"
      refine lk_v q ?_
      have : ¬ (V.int 0 = V.int ((d.octs.length : Int) + 2)) := by simp; omega
      simp [this]
    · exact q
theorem ok_Sender_all_done (W : Wld K mg) : PFn P w K mg base (He.ga K "Sender") "all_done" 1 (spAllDone K) := by
  obtain ⟨fd, F1, F⟩ := fo_Sender_all_done (P := P) (w := w) (base := base) W
  exact ⟨⟨_, _, fd, W.c_Sender, W.p_Sender_all_done, F1, F.bindsN fun _ _ _ _ _ _ us hl => match us, hl with | [_], _ => rfl⟩⟩
theorem u_AllDone {o : OptD} {A : EA} {d : EndD} {H : Hp} {Q : VK} (h : SAt K H o A d) (q : Q (.bl false) H) : spAllDone K [.ref A.s] H Q E0 := ⟨o, A, d, rfl, h, q⟩
def EndD.free (o : OptD) (d : EndD) : Int := if d.fin = true then 0 else if o.room - (d.octs.length : Int) > 0 then o.room - (d.octs.length : Int) else 0
def spFree (K : PySem.W.Frag) : Sp := fun vs H Q _ => ∃ (o : OptD) (A : EA) (d : EndD), vs = [.ref A.s] ∧ SAt K H o A d ∧ H A.q = some (.lst (nis d.octs)) ∧ Q (.int (d.free o)) H
abbrev N_Sender_free : List Str := ["self"]
theorem sc_Sender_free : FnScope N_Sender_free ["self"] (defScope s_Sender_free) := ⟨rfl, rfl, rfl, by decide +kernel, rfl, by decide +kernel, by decide +kernel⟩
theorem fo_Sender_free (W : Wld K mg) : ∃ fd, FnOk P w K mg base CX0 1 (pl_Sender_free.ad K) fd ["self"] (spFree K) ∧ FunD K "free" "Sender.free" (defArgs s_Sender_free) (defBody s_Sender_free) (defScope s_Sender_free) [] [] (pl_Sender_free.ad K) fd := by
  obtain ⟨fd, F⟩ := W.d_Sender_free
  refine ⟨fd, F.ok sc_Sender_free (fun vs H Q E h => ?_) (fun cdv A outer s H vs Q E hr h => ?_), F⟩
  · obtain ⟨o, A', d, rfl, z1, z2, q⟩ := h; rfl
  · obtain ⟨o, A', d, rfl, z1, z2, q⟩ := h
    have hu := hu_of hr
    refine ⟨_, PSs.nox (pss_cons (ps_if (pt_val (pe_get W.c_Sender W.n_Sender_finished RSender.l_finished (pv 0))) (pss_one (ps_ret pe_int)) pss_nil)
      (pss_one (ps_ret (pe_callB (call_max2 rfl) (by rfl) W.f_max bt_max (pa_cons pe_int (pa_cons (pe_op op_sub (pe_get W.c_Sender W.n_Sender_room RSender.l_room (pv 0)) (pe_callB call_len_seq (by rfl) W.f_len boot_len (pa_cons (pe_get W.c_Sender W.n_Sender__queue RSender.l_queue (pv 0)) pa_nil))) pa_nil)))))), ?_⟩
    walk_at "s"
    refine br_2 (fun e => ?_) (fun e => ?_)
    · walk_at "s"
      refine lk_v q ?_
      rw [EndD.free, if_pos e]
    · walk_at "s"
      refine lk_v q ?_
      rw [EndD.free, if_neg (by rw [e]; simp)]
      simp
theorem ok_Sender_free (W : Wld K mg) : PFn P w K mg base (He.ga K "Sender") "free" 1 (spFree K) := by
  obtain ⟨fd, F1, F⟩ := fo_Sender_free (P := P) (w := w) (base := base) W
  exact ⟨⟨_, _, fd, W.c_Sender, W.p_Sender_free, F1, F.bindsN fun _ _ _ _ _ _ us hl => match us, hl with | [_], _ => rfl⟩⟩
theorem u_Free {o : OptD} {A : EA} {d : EndD} {H : Hp} {Q : VK} (h : SAt K H o A d) (h2 : H A.q = some (.lst (nis d.octs))) (q : Q (.int (d.free o)) H) : spFree K [.ref A.s] H Q E0 := ⟨o, A, d, rfl, h, h2, q⟩
/-- octets taken -/
def EndD.tk (o : OptD) (d : EndD) (ns : List Int) : Int := if d.free o < (ns.length : Int) then d.free o else ns.length
theorem EndD.tk0 (o : OptD) (d : EndD) (ns : List Int) : 0 ≤ d.tk o ns ∧ d.tk o ns ≤ ns.length := by
  have : 0 ≤ d.free o := by unfold EndD.free; split <;> (try split) <;> omega
  unfold EndD.tk
  split <;> omega
abbrev EndD.put (o : OptD) (d : EndD) (ns : List Int) : EndD := { d with octs := d.octs ++ ns.take (d.tk o ns).toNat }
abbrev EA.setq (A : EA) (q : Addr) : EA := { A with q := q }
def RSW (K : PySem.W.Frag) (o : OptD) (A : EA) (d : EndD) (ns : List Int) (H : Hp) (Q : VK) : Prop := ∀ q' H', H q' = none → Kp [A.s] H H' → SAt K H' o (A.setq q') (d.put o ns) → H' q' = some (.lst (nis (d.put o ns).octs)) → Q (.int (d.tk o ns)) H'
def spSWrite (K : PySem.W.Frag) : Sp := fun vs H Q _ => ∃ (o : OptD) (A : EA) (d : EndD) (a : Addr) (ns : List Int), vs = [.ref A.s, .ref a] ∧ SAt K H o A d ∧ H A.q = some (.lst (nis d.octs)) ∧ A.q ≠ A.s ∧ H a = some (.lst (nis ns)) ∧ d.octs.length ≤ 1000 ∧ ns.length ≤ 1000 ∧ RSW K o A d ns H Q
local macro_rules | `(tactic| walk_at "s1") => `(tactic| first
  | (show spFree _ _ _ _ _; refine' u_Free ?k1 ?k2 ?k3; (case k1 => walk_at "look"); (case k2 => walk_at "look")))
abbrev N_Sender_write : List Str := ["self", "octets", "taken"]
theorem sc_Sender_write : FnScope N_Sender_write ["self", "octets"] (defScope s_Sender_write) := ⟨rfl, rfl, rfl, by decide +kernel, rfl, by decide +kernel, by decide +kernel⟩
theorem fo_Sender_write (W : Wld K mg) : ∃ fd, FnOk P w K mg base CX0 3 (pl_Sender_write.ad K) fd ["self", "octets"] (spSWrite K) ∧ FunD K "write" "Sender.write" (defArgs s_Sender_write) (defBody s_Sender_write) (defScope s_Sender_write) [] [] (pl_Sender_write.ad K) fd := by
  obtain ⟨fd, F⟩ := W.d_Sender_write
  refine ⟨fd, F.ok sc_Sender_write (fun vs H Q E h => ?_) (fun cdv A outer s H vs Q E hr h => ?_), F⟩
  · obtain ⟨o, A', d, a, ns, rfl, z1, z2, n0, z3, l1, l2, q⟩ := h; rfl
  · obtain ⟨o, A', d, a, ns, rfl, z1, z2, n0, z3, l1, l2, q⟩ := h
    have hu := hu_of hr
    refine ⟨_, PSs.nox (pss_cons (ps_set (i := 2) sc_Sender_write.nd rfl (Or.inl rfl) (pe_callB (call_min2 rfl) (by rfl) W.f_min bt_min (pa_cons (pe_callB call_len_seq (by rfl) W.f_len boot_len (pa_cons (pv 1) pa_nil)) (pa_cons (pe_pr (ok_Sender_free (P := P) (K := K) W) (hr.mono (by decide)) (pv 0) rfl) pa_nil))))
      (pss_cons (ps_put W.c_Sender W.n_Sender__queue RSender.p_queue RSender.len (pv 0) (pe_op op_cat (pe_get W.c_Sender W.n_Sender__queue RSender.l_queue (pv 0)) (pe_callTy call_list_of (by rfl) W.f_list bt_list (pa_cons (pe_slice sl_list (pv 1) po_none (po_some (pv 2))) pa_nil))))
      (pss_cons (ps_put W.c_Sender W.n_Sender_written RSender.p_written RSender.len (pv 0) (pe_op op_add (pe_get W.c_Sender W.n_Sender_written RSender.l_written (pv 0)) (pv 2)))
      (pss_one (ps_ret (pv 2)))))), ?_⟩
    walk_at "s"
    refine' c_cat ?k1 ?k2 ?k3 ?k4
    case k1 => walk_at "look"
    case k2 => walk_at "look"
    case k3 => exact Nat.le_trans (Nat.add_le_add_left (cutV_length _ _ _) _) (by simp [sizeLine_eq]; omega)
    walk_at "s"
    rename_i b1 f1 b2 f2 q3 f3
    have t0 := d.tk0 o ns
    have ew : ((d.octs.length : Int) + d.tk o ns) = ((d.put o ns).octs.length : Int) := by
      simp only [EndD.put, List.length_append, List.length_take]
      omega
    have el : (if EndD.free o d < ((nis ns).length : Int) then EndD.free o d else ((nis ns).length : Int)) = d.tk o ns := by simp [EndD.tk]
    refine lk_v ?_ (congrArg V.int el.symm)
    refine q q3 _ (by walk_at "fresh") (by walk_at "kp") ?_ ?_
    · refine' ins_eq ?k1 ?k2
      case k1 => walk_at "look"
      case k2 =>
        show RSender.fs ⟨_, _, _, .int ((d.octs.length : Int) + _), _, _, _, _, _, _, _, _⟩ = _
        rw [el, ew]
    · refine' lk_eq ?k1 ?k2
      case k1 => walk_at "look"
      case k2 => rw [el, cut_hi _ (d.tk o ns).toNat (by omega)]; simp [EndD.put]
theorem ok_Sender_write (W : Wld K mg) : MFn P w K mg base (He.ga K "Sender") "write" 3 ["self", "octets"] [] (spSWrite K) := by
  obtain ⟨fd, F1, F⟩ := fo_Sender_write (P := P) (w := w) (base := base) W
  exact ⟨⟨_, fd, [], W.c_Sender, W.m_Sender_write, F1, F.bindsN fun _ _ _ _ _ _ us hl => match us, hl with | [_, _], _ => rfl, .nil⟩⟩
theorem u_SWrite {o : OptD} {A : EA} {d : EndD} {a : Addr} {ns : List Int} {H : Hp} {Q : VK} (h : SAt K H o A d) (h2 : H A.q = some (.lst (nis d.octs))) (n : A.q ≠ A.s) (h3 : H a = some (.lst (nis ns))) (l1 : d.octs.length ≤ 1000) (l2 : ns.length ≤ 1000) (q : RSW K o A d ns H Q) : spSWrite K [.ref A.s, .ref a] H Q E0 := ⟨o, A, d, a, ns, rfl, h, h2, n, h3, l1, l2, q⟩
def RSF (K : PySem.W.Frag) (o : OptD) (A : EA) (d : EndD) (H : Hp) (Q : VK) : Prop := ∀ H', Kp [A.s] H H' → SAt K H' o A d → Q .non H'
def spSFinish (K : PySem.W.Frag) : Sp := fun vs H Q _ => ∃ (o : OptD) (A : EA) (d : EndD), vs = [.ref A.s] ∧ SAt K H o A d ∧ RSF K o A { d with fin := true } H Q
abbrev N_Sender_finish : List Str := ["self"]
theorem sc_Sender_finish : FnScope N_Sender_finish ["self"] (defScope s_Sender_finish) := ⟨rfl, rfl, rfl, by decide +kernel, rfl, by decide +kernel, by decide +kernel⟩
theorem fo_Sender_finish (W : Wld K mg) : ∃ fd, FnOk P w K mg base CX0 1 (pl_Sender_finish.ad K) fd ["self"] (spSFinish K) ∧ FunD K "finish" "Sender.finish" (defArgs s_Sender_finish) (defBody s_Sender_finish) (defScope s_Sender_finish) [] [] (pl_Sender_finish.ad K) fd := by
  obtain ⟨fd, F⟩ := W.d_Sender_finish
  refine ⟨fd, F.ok sc_Sender_finish (fun vs H Q E h => ?_) (fun cdv A outer s H vs Q E hr h => ?_), F⟩
  · obtain ⟨o, A', d, rfl, z1, q⟩ := h; rfl
  · obtain ⟨o, A', d, rfl, z1, q⟩ := h
    have hu := hu_of hr
    refine ⟨_, PSs.nox (pss_one (ps_put W.c_Sender W.n_Sender_finished RSender.p_finished RSender.len (pv 0) pe_bl)), ?_⟩
    walk_at "s"
    exact q _ (by walk_at "kp") (by walk_at "look")
theorem ok_Sender_finish (W : Wld K mg) : MFn P w K mg base (He.ga K "Sender") "finish" 1 ["self"] [] (spSFinish K) := by
  obtain ⟨fd, F1, F⟩ := fo_Sender_finish (P := P) (w := w) (base := base) W
  exact ⟨⟨_, fd, [], W.c_Sender, W.m_Sender_finish, F1, F.bindsN fun _ _ _ _ _ _ us hl => match us, hl with | [_], _ => rfl, .nil⟩⟩
theorem u_SFinish {o : OptD} {A : EA} {d : EndD} {H : Hp} {Q : VK} (h : SAt K H o A d) (q : RSF K o A { d with fin := true } H Q) : spSFinish K [.ref A.s] H Q E0 := ⟨o, A, d, rfl, h, q⟩
/-- a fresh endpoint's data -/
abbrev fr0 (now : Int) : EndD := ⟨0, [], false, false, .non, now, now⟩
/-- a first piece -/
structure PcOK (K : PySem.W.Frag) (H : Hp) (p dx dl rl : Addr) (wnd : Int) (st : V) : Prop where
  hp : H p = some (.ins (He.ga K "Piece") dx (RPiece.fs ⟨.int 0, .ref dl, .bl true, .bl false, .bl false, .non, .int wnd, .ref rl, .bl false, .bl false, st⟩))
  hd : H dl = some (.lst [])
  hr : H rl = some (.lst [])
  nd : dl ≠ p
  nr : rl ≠ p
def RPc (K : PySem.W.Frag) (H : Hp) (Q : VK) : Prop := ∀ p dx dl rl H', H p = none → H dl = none → H rl = none → Same H H' → PcOK K H' p dx dl rl 0 .non → Q (.ref p) H'
def spSPiece (K : PySem.W.Frag) : Sp := fun vs H Q _ => ∃ (o : OptD) (A : EA) (now : Int), vs = [.ref A.s, .int 0, .int 0] ∧ SAt K H o A (fr0 now) ∧ H A.q = some (.lst []) ∧ RPc K H Q
local macro_rules | `(tactic| walk_at "s1") => `(tactic| first
  | (show spPieceI _ _ _ _ _ _; refine' u_PieceI ?k1 ?k2 ?k3 ?k4; (case k1 => walk_at "look"); (case k2 => walk_at "emp"); (case k3 => walk_at "emp")))
abbrev N_Sender_piece : List Str := ["self", "start", "size", "first", "at", "data", "fin"]
theorem sc_Sender_piece : FnScope N_Sender_piece ["self", "start", "size"] (defScope s_Sender_piece) := ⟨rfl, rfl, rfl, by decide +kernel, rfl, by decide +kernel, by decide +kernel⟩
theorem fo_Sender_piece (W : Wld K mg) : ∃ fd, FnOk P w K mg base CX0 3 (pl_Sender_piece.ad K) fd ["self", "start", "size"] (spSPiece K) ∧ FunD K "piece" "Sender.piece" (defArgs s_Sender_piece) (defBody s_Sender_piece) (defScope s_Sender_piece) [] [] (pl_Sender_piece.ad K) fd := by
  obtain ⟨fd, F⟩ := W.d_Sender_piece
  refine ⟨fd, F.ok sc_Sender_piece (fun vs H Q E h => ?_) (fun cdv A outer s H vs Q E hr h => ?_), F⟩
  · obtain ⟨o, A', now, rfl, z1, z2, q⟩ := h; rfl
  · obtain ⟨o, A', now, rfl, z1, z2, q⟩ := h
    have hu := hu_of hr
    refine ⟨_, PSs.nox (pss_cons (ps_set (i := 3) sc_Sender_piece.nd rfl (Or.inl rfl) (pe_callB (call_max2 rfl) (by rfl) W.f_max bt_max (pa_cons (pv 1) (pa_cons pe_int pa_nil))))
      (pss_cons (ps_set (i := 4) sc_Sender_piece.nd rfl (Or.inl rfl) (pe_op op_sub (pv 3) (pe_callB (call_max2 rfl) (by rfl) W.f_max bt_max (pa_cons (pe_get W.c_Sender W.n_Sender_una RSender.l_una (pv 0)) (pa_cons pe_int pa_nil)))))
      (pss_cons (ps_set (i := 5) sc_Sender_piece.nd rfl (Or.inl rfl) (pe_slice sl_list (pe_get W.c_Sender W.n_Sender__queue RSender.l_queue (pv 0)) (po_some (pv 4)) (po_some (pe_op op_add (pv 4) (pv 2)))))
      (pss_cons (ps_set (i := 6) sc_Sender_piece.nd rfl (Or.inl rfl) (pe_and (pe_get W.c_Sender W.n_Sender_finished RSender.l_finished (pv 0)) (pe_and (pe_cmpR op_ge (pv 1) pe_int (nomark _)) (pe_one (pe_cmpR op_eq (pe_op op_add (pv 3) (pe_callB call_len_seq (by rfl) W.f_len boot_len (pa_cons (pv 5) pa_nil))) (pe_op op_add (pe_get W.c_Sender W.n_Sender_written RSender.l_written (pv 0)) pe_int) (nomark _))))))
      (pss_one (ps_ret (pe_mkK (ok_Piece_make_k (P := P) (K := K) W) (hr.mono (by decide)) (by rfl) (pa_cons (pv 1) pa_nil) (pk_cons (pv 5) (pk_cons (pe_cmpR op_eq (pv 1) pe_int (nomark _)) (pk_cons (pv 6) pk_nil)))))))))), ?_⟩
    have er := W.e_Piece_ranges
    walk_at "s"
    rename_i p1 f1 px pd fpx fpd npx dl rl H1 fdl frl n1 n2 n3 e1 h1 hdl hrl
    exact q px pd dl rl H1 (by walk_at "fresh") (by walk_at "fresh") (by walk_at "fresh") (by walk_at "same") ⟨by walk_at "ins", hdl, hrl, n1, n2⟩
theorem ok_Sender_piece (W : Wld K mg) : MFn P w K mg base (He.ga K "Sender") "piece" 3 ["self", "start", "size"] [] (spSPiece K) := by
  obtain ⟨fd, F1, F⟩ := fo_Sender_piece (P := P) (w := w) (base := base) W
  exact ⟨⟨_, fd, [], W.c_Sender, W.m_Sender_piece, F1, F.bindsN fun _ _ _ _ _ _ us hl => match us, hl with | [_, _, _], _ => rfl, .nil⟩⟩
theorem u_SPiece {o : OptD} {A : EA} {now : Int} {H : Hp} {Q : VK} (h : SAt K H o A (fr0 now)) (h2 : H A.q = some (.lst [])) (q : RPc K H Q) : spSPiece K [.ref A.s, .int 0, .int 0] H Q E0 := ⟨o, A, now, rfl, h, h2, q⟩
def spStop (K : PySem.W.Frag) : Sp := fun vs H Q _ => ∃ (p dx dl rl : Addr), vs = [.ref p] ∧ PcOK K H p dx dl rl 0 .non ∧ Q (.int 1) H
abbrev N_Piece_stop : List Str := ["self"]
theorem sc_Piece_stop : FnScope N_Piece_stop ["self"] (defScope s_Piece_stop) := ⟨rfl, rfl, rfl, by decide +kernel, rfl, by decide +kernel, by decide +kernel⟩
theorem fo_Piece_stop (W : Wld K mg) : ∃ fd, FnOk P w K mg base CX0 1 (pl_Piece_stop.ad K) fd ["self"] (spStop K) ∧ FunD K "stop" "Piece.stop" (defArgs s_Piece_stop) (defBody s_Piece_stop) (defScope s_Piece_stop) [] [] (pl_Piece_stop.ad K) fd := by
  obtain ⟨fd, F⟩ := W.d_Piece_stop
  refine ⟨fd, F.ok sc_Piece_stop (fun vs H Q E h => ?_) (fun cdv A outer s H vs Q E hr h => ?_), F⟩
  · obtain ⟨p, dx, dl, rl, rfl, ⟨z1, z2, z3, z4, z5⟩, q⟩ := h; rfl
  · obtain ⟨p, dx, dl, rl, rfl, ⟨z1, z2, z3, z4, z5⟩, q⟩ := h
    have hu := hu_of hr
    refine ⟨_, PSs.nox (pss_one (ps_ret (pe_op op_add (pe_op op_add (pe_op op_add (pe_get W.c_Piece W.n_Piece_start RPiece.l_start (pv 0)) (pe_callB call_len_seq (by rfl) W.f_len boot_len (pa_cons (pe_get W.c_Piece W.n_Piece_data RPiece.l_data (pv 0)) pa_nil))) (pe_callTy call_int1 (by rfl) W.f_int bt_int (pa_cons (pe_get W.c_Piece W.n_Piece_syn RPiece.l_syn (pv 0)) pa_nil))) (pe_callTy call_int1 (by rfl) W.f_int bt_int (pa_cons (pe_get W.c_Piece W.n_Piece_fin RPiece.l_fin (pv 0)) pa_nil))))), ?_⟩
    walk_at "s"
    exact q
theorem ok_Piece_stop (W : Wld K mg) : PFn P w K mg base (He.ga K "Piece") "stop" 1 (spStop K) := by
  obtain ⟨fd, F1, F⟩ := fo_Piece_stop (P := P) (w := w) (base := base) W
  exact ⟨⟨_, _, fd, W.c_Piece, W.p_Piece_stop, F1, F.bindsN fun _ _ _ _ _ _ us hl => match us, hl with | [_], _ => rfl⟩⟩
theorem u_Stop {p dx dl rl : Addr} {H : Hp} {Q : VK} (h : PcOK K H p dx dl rl 0 .non) (q : Q (.int 1) H) : spStop K [.ref p] H Q E0 := ⟨p, dx, dl, rl, rfl, h, q⟩
local macro_rules | `(tactic| walk_at "pc") => `(tactic| (refine' PcOK.mk ?k1 ?k2 ?k3 ?k4 ?k5; (case k1 => walk_at "look"); (case k2 => walk_at "look"); (case k3 => walk_at "look"); (case k4 => assumption); (case k5 => assumption)))
local macro_rules | `(tactic| walk_at "s1") => `(tactic| first
  | (show spStop _ _ _ _ _; refine' u_Stop ?k1 ?k2; (case k1 => walk_at "pc")))
def spMark (K : PySem.W.Frag) : Sp := fun vs H Q _ => ∃ (o : OptD) (A : EA) (now : Int) (p dx dl rl : Addr), vs = [.ref A.s, .ref p] ∧ SAt K H o A (fr0 now) ∧ PcOK K H p dx dl rl 0 .non ∧ RSF K o A (⟨1, [], false, false, .non, now, now⟩ : EndD) H Q
abbrev N_Sender_mark_sent : List Str := ["self", "piece"]
theorem sc_Sender_mark_sent : FnScope N_Sender_mark_sent ["self", "piece"] (defScope s_Sender_mark_sent) := ⟨rfl, rfl, rfl, by decide +kernel, rfl, by decide +kernel, by decide +kernel⟩
theorem fo_Sender_mark_sent (W : Wld K mg) : ∃ fd, FnOk P w K mg base CX0 3 (pl_Sender_mark_sent.ad K) fd ["self", "piece"] (spMark K) ∧ FunD K "mark_sent" "Sender.mark_sent" (defArgs s_Sender_mark_sent) (defBody s_Sender_mark_sent) (defScope s_Sender_mark_sent) [] [] (pl_Sender_mark_sent.ad K) fd := by
  obtain ⟨fd, F⟩ := W.d_Sender_mark_sent
  refine ⟨fd, F.ok sc_Sender_mark_sent (fun vs H Q E h => ?_) (fun cdv A outer s H vs Q E hr h => ?_), F⟩
  · obtain ⟨o, A', now, p, dx, dl, rl, rfl, z0, ⟨z1, z2, z3, z4, z5⟩, q⟩ := h; rfl
  · obtain ⟨o, A', now, p, dx, dl, rl, rfl, z0, ⟨z1, z2, z3, z4, z5⟩, q⟩ := h
    have hu := hu_of hr
    refine ⟨_, PSs.nox (pss_cons (ps_if (pt_cmpR op_lt (pe_get W.c_Piece W.n_Piece_start RPiece.l_start (pv 1)) (pe_get W.c_Sender W.n_Sender_nxt RSender.l_nxt (pv 0)) (nomark _)) (pss_one (ps_put W.c_Sender W.n_Sender_resend RSender.p_resend RSender.len (pv 0) (pe_callB (call_max2 rfl) (by rfl) W.f_max bt_max (pa_cons (pe_get W.c_Sender W.n_Sender_resend RSender.l_resend (pv 0)) (pa_cons (pe_pr (ok_Piece_stop (P := P) (K := K) W) (hr.mono (by decide)) (pv 1) rfl) pa_nil))))) pss_nil)
      (pss_one (ps_put W.c_Sender W.n_Sender_nxt RSender.p_nxt RSender.len (pv 0) (pe_callB (call_max2 rfl) (by rfl) W.f_max bt_max (pa_cons (pe_get W.c_Sender W.n_Sender_nxt RSender.l_nxt (pv 0)) (pa_cons (pe_pr (ok_Piece_stop (P := P) (K := K) W) (hr.mono (by decide)) (pv 1) rfl) pa_nil)))))), ?_⟩
    walk_at "s"
    exact q _ (by walk_at "kp") (by walk_at "ins")
theorem ok_Sender_mark_sent (W : Wld K mg) : MFn P w K mg base (He.ga K "Sender") "mark_sent" 3 ["self", "piece"] [] (spMark K) := by
  obtain ⟨fd, F1, F⟩ := fo_Sender_mark_sent (P := P) (w := w) (base := base) W
  exact ⟨⟨_, fd, [], W.c_Sender, W.m_Sender_mark_sent, F1, F.bindsN fun _ _ _ _ _ _ us hl => match us, hl with | [_, _], _ => rfl, .nil⟩⟩
theorem u_Mark {o : OptD} {A : EA} {now : Int} {p dx dl rl : Addr} {H : Hp} {Q : VK} (h : SAt K H o A (fr0 now)) (h2 : PcOK K H p dx dl rl 0 .non) (q : RSF K o A (⟨1, [], false, false, .non, now, now⟩ : EndD) H Q) : spMark K [.ref A.s, .ref p] H Q E0 := ⟨o, A, now, p, dx, dl, rl, rfl, h, h2, q⟩
def spNotSacked (K : PySem.W.Frag) : Sp := fun vs H Q _ => ∃ (o : OptD) (A : EA) (d : EndD) (i j : Int), vs = [.ref A.s, .int i, .int j] ∧ SAt K H o A d ∧ H A.k = some (.lst []) ∧ Q (.int (if j ≤ i then 0 else j - i - 0)) H
abbrev N_Sender__not_sacked : List Str := ["self", "start", "stop"]
theorem sc_Sender__not_sacked : FnScope N_Sender__not_sacked ["self", "start", "stop"] (defScope s_Sender__not_sacked) := ⟨rfl, rfl, rfl, by decide +kernel, rfl, by decide +kernel, by decide +kernel⟩
theorem fo_Sender__not_sacked (W : Wld K mg) : ∃ fd, FnOk P w K mg base CX0 2 (pl_Sender__not_sacked.ad K) fd ["self", "start", "stop"] (spNotSacked K) ∧ FunD K "_not_sacked" "Sender._not_sacked" (defArgs s_Sender__not_sacked) (defBody s_Sender__not_sacked) (defScope s_Sender__not_sacked) [] [] (pl_Sender__not_sacked.ad K) fd := by
  obtain ⟨fd, F⟩ := W.d_Sender__not_sacked
  refine ⟨fd, F.ok sc_Sender__not_sacked (fun vs H Q E h => ?_) (fun cdv A outer s H vs Q E hr h => ?_), F⟩
  · obtain ⟨o, A', d, i, j, rfl, z1, z2, q⟩ := h; rfl
  · obtain ⟨o, A', d, i, j, rfl, z1, z2, q⟩ := h
    have hu := hu_of hr
    refine ⟨_, PSs.nox (pss_cons (ps_if (pt_cmpR op_le (pv 2) (pv 1) (nomark _)) (pss_one (ps_ret pe_int)) pss_nil)
      (pss_one (ps_ret (pe_op op_sub (pe_op op_sub (pv 2) (pv 1)) (pe_fn (ok_count_inside (P := P) (K := K) W) (hr.mono (by decide)) (by rfl) (pa_cons (pe_get W.c_Sender W.n_Sender__sacked RSender.l_sacked (pv 0)) (pa_cons (pv 1) (pa_cons (pv 2) pa_nil)))))))), ?_⟩
    walk_at "s"
    refine br_2 (fun e => ?_) (fun e => ?_)
    · walk_at "s"
      refine lk_v q ?_
      rw [if_pos (of_decide_eq_true e)]
    · walk_at "s"
      refine lk_v q ?_
      rw [if_neg (of_decide_eq_false e)]
theorem ok_Sender__not_sacked (W : Wld K mg) : MFn P w K mg base (He.ga K "Sender") "_not_sacked" 2 ["self", "start", "stop"] [] (spNotSacked K) := by
  obtain ⟨fd, F1, F⟩ := fo_Sender__not_sacked (P := P) (w := w) (base := base) W
  exact ⟨⟨_, fd, [], W.c_Sender, W.m_Sender__not_sacked, F1, F.bindsN fun _ _ _ _ _ _ us hl => match us, hl with | [_, _, _], _ => rfl, .nil⟩⟩
theorem u_NotSacked {o : OptD} {A : EA} {d : EndD} {i j : Int} {H : Hp} {Q : VK} (h : SAt K H o A d) (h2 : H A.k = some (.lst [])) (q : Q (.int (if j ≤ i then 0 else j - i - 0)) H) : spNotSacked K [.ref A.s, .int i, .int j] H Q E0 := ⟨o, A, d, i, j, rfl, h, h2, q⟩
def spLossEnd (K : PySem.W.Frag) : Sp := fun vs H Q _ => ∃ (o : OptD) (A : EA) (d : EndD) (i : Int), vs = [.ref A.s, .int i] ∧ SAt K H o A d ∧ Q (.int 0) H
abbrev N_Sender__loss_end : List Str := ["self", "mss"]
theorem sc_Sender__loss_end : FnScope N_Sender__loss_end ["self", "mss"] (defScope s_Sender__loss_end) := ⟨rfl, rfl, rfl, by decide +kernel, rfl, by decide +kernel, by decide +kernel⟩
theorem fo_Sender__loss_end (W : Wld K mg) : ∃ fd, FnOk P w K mg base CX0 1 (pl_Sender__loss_end.ad K) fd ["self", "mss"] (spLossEnd K) ∧ FunD K "_loss_end" "Sender._loss_end" (defArgs s_Sender__loss_end) (defBody s_Sender__loss_end) (defScope s_Sender__loss_end) [] [] (pl_Sender__loss_end.ad K) fd := by
  obtain ⟨fd, F⟩ := W.d_Sender__loss_end
  refine ⟨fd, F.ok sc_Sender__loss_end (fun vs H Q E h => ?_) (fun cdv A outer s H vs Q E hr h => ?_), F⟩
  · obtain ⟨o, A', d, i, rfl, z1, q⟩ := h; rfl
  · obtain ⟨o, A', d, i, rfl, z1, q⟩ := h
    have hu := hu_of hr
    refine ⟨_, PSs.nox (pss_cons (ps_if (pt_cmpR op_isN (pe_get W.c_Sender W.n_Sender_recovery RSender.l_recovery (pv 0)) pe_non (nomark _)) (pss_one (ps_ret pe_int)) pss_nil)
      pss_never), ?_⟩
    walk_at "s"
    exact q
theorem ok_Sender__loss_end (W : Wld K mg) : MFn P w K mg base (He.ga K "Sender") "_loss_end" 1 ["self", "mss"] [] (spLossEnd K) := by
  obtain ⟨fd, F1, F⟩ := fo_Sender__loss_end (P := P) (w := w) (base := base) W
  exact ⟨⟨_, fd, [], W.c_Sender, W.m_Sender__loss_end, F1, F.bindsN fun _ _ _ _ _ _ us hl => match us, hl with | [_, _], _ => rfl, .nil⟩⟩
theorem u_LossEnd {o : OptD} {A : EA} {d : EndD} {i : Int} {H : Hp} {Q : VK} (h : SAt K H o A d) (q : Q (.int 0) H) : spLossEnd K [.ref A.s, .int i] H Q E0 := ⟨o, A, d, i, rfl, h, q⟩
local macro_rules | `(tactic| walk_at "s1") => `(tactic| first
  | (show spNotSacked _ _ _ _ _; refine' u_NotSacked ?k1 ?k2 ?k3; (case k1 => walk_at "look"); (case k2 => walk_at "look"))
  | (show spLossEnd _ _ _ _ _; refine' u_LossEnd ?k1 ?k2; (case k1 => walk_at "look")))
def spPipe (K : PySem.W.Frag) : Sp := fun vs H Q _ => ∃ (o : OptD) (A : EA) (d : EndD) (i : Int), vs = [.ref A.s, .int i] ∧ SAt K H o A d ∧ H A.k = some (.lst []) ∧ 0 ≤ d.nxt ∧ Q (.int d.nxt) H
abbrev N_Sender_pipe : List Str := ["self", "mss", "low", "high"]
theorem sc_Sender_pipe : FnScope N_Sender_pipe ["self", "mss"] (defScope s_Sender_pipe) := ⟨rfl, rfl, rfl, by decide +kernel, rfl, by decide +kernel, by decide +kernel⟩
theorem fo_Sender_pipe (W : Wld K mg) : ∃ fd, FnOk P w K mg base CX0 3 (pl_Sender_pipe.ad K) fd ["self", "mss"] (spPipe K) ∧ FunD K "pipe" "Sender.pipe" (defArgs s_Sender_pipe) (defBody s_Sender_pipe) (defScope s_Sender_pipe) [] [] (pl_Sender_pipe.ad K) fd := by
  obtain ⟨fd, F⟩ := W.d_Sender_pipe
  refine ⟨fd, F.ok sc_Sender_pipe (fun vs H Q E h => ?_) (fun cdv A outer s H vs Q E hr h => ?_), F⟩
  · obtain ⟨o, A', d, i, rfl, z1, z2, hn, q⟩ := h; rfl
  · obtain ⟨o, A', d, i, rfl, z1, z2, hn, q⟩ := h
    have hu := hu_of hr
    refine ⟨_, PSs.nox (pss_cons (ps_set (i := 2) sc_Sender_pipe.nd rfl (Or.inl rfl) (pe_callB (call_max2 rfl) (by rfl) W.f_max bt_max (pa_cons (pe_get W.c_Sender W.n_Sender_una RSender.l_una (pv 0)) (pa_cons (pe_get W.c_Sender W.n_Sender_resend RSender.l_resend (pv 0)) pa_nil))))
      (pss_cons (ps_set (i := 3) sc_Sender_pipe.nd rfl (Or.inl rfl) (pe_callB (call_min2 rfl) (by rfl) W.f_min bt_min (pa_cons (pe_get W.c_Sender W.n_Sender_nxt RSender.l_nxt (pv 0)) (pa_cons (pe_mt (ok_Sender__loss_end (P := P) (K := K) W) (hr.mono (by decide)) (pv 0) (pa_cons (pv 1) pa_nil)) pa_nil))))
      (pss_one (ps_ret (pe_op op_sub (pe_mt (ok_Sender__not_sacked (P := P) (K := K) W) (hr.mono (by decide)) (pv 0) (pa_cons (pe_get W.c_Sender W.n_Sender_una RSender.l_una (pv 0)) (pa_cons (pe_get W.c_Sender W.n_Sender_nxt RSender.l_nxt (pv 0)) pa_nil))) (pe_mt (ok_Sender__not_sacked (P := P) (K := K) W) (hr.mono (by decide)) (pv 0) (pa_cons (pv 2) (pa_cons (pv 3) pa_nil)))))))), ?_⟩
    walk_at "s"
    refine lk_v q (congrArg V.int ?_)
    repeat' split
    all_goals omega
theorem ok_Sender_pipe (W : Wld K mg) : MFn P w K mg base (He.ga K "Sender") "pipe" 3 ["self", "mss"] [] (spPipe K) := by
  obtain ⟨fd, F1, F⟩ := fo_Sender_pipe (P := P) (w := w) (base := base) W
  exact ⟨⟨_, fd, [], W.c_Sender, W.m_Sender_pipe, F1, F.bindsN fun _ _ _ _ _ _ us hl => match us, hl with | [_, _], _ => rfl, .nil⟩⟩
theorem u_Pipe {o : OptD} {A : EA} {d : EndD} {i : Int} {H : Hp} {Q : VK} (h : SAt K H o A d) (h2 : H A.k = some (.lst [])) (hn : 0 ≤ d.nxt) (q : Q (.int d.nxt) H) : spPipe K [.ref A.s, .int i] H Q E0 := ⟨o, A, d, i, rfl, h, h2, hn, q⟩
local macro_rules | `(tactic| walk_at "s1") => `(tactic| first
  | (show spPipe _ _ _ _ _; refine' u_Pipe ?k1 ?k2 ?k3 ?k4; (case k1 => walk_at "look"); (case k2 => walk_at "look"); (case k3 => first | omega | exact Int.le_refl 0))
  | (show spSPiece _ _ _ _ _; refine' u_SPiece ?k1 ?k2 ?k3; (case k1 => walk_at "look"); (case k2 => walk_at "look"))
  | ((with_reducible show RPc _ _ _); intro a9 b9 c9 d9 H9 f9 g9 i9 e9 h9))
/-- nothing, or the first piece of a fresh sender -/
def spNextP (K : PySem.W.Frag) : Sp := fun vs H Q _ => ∃ (o : OptD) (A : EA) (d : EndD) (c m l : Int) (n : Bool), vs = [.ref A.s, .int c, .int m, .int l, .bl n] ∧ SAt K H o A d ∧ H A.k = some (.lst []) ∧ H A.q = some (.lst (nis d.octs)) ∧
  ((d.nxt = 1 ∧ Q .non H) ∨ ∃ now, d = fr0 now ∧ RPc K H Q)
abbrev N_Sender_next_piece : List Str := ["self", "cwnd", "mss", "allow", "nagle", "pipe", "start", "left", "size", "full", "whole"]
theorem sc_Sender_next_piece : FnScope N_Sender_next_piece ["self", "cwnd", "mss", "allow", "nagle"] (defScope s_Sender_next_piece) := ⟨rfl, rfl, rfl, by decide +kernel, rfl, by decide +kernel, by decide +kernel⟩
theorem fo_Sender_next_piece (W : Wld K mg) : ∃ fd, FnOk P w K mg base CX0 5 (pl_Sender_next_piece.ad K) fd ["self", "cwnd", "mss", "allow", "nagle"] (spNextP K) ∧ FunD K "next_piece" "Sender.next_piece" (defArgs s_Sender_next_piece) (defBody s_Sender_next_piece) (defScope s_Sender_next_piece) [] [("nagle", V.bl false)] (pl_Sender_next_piece.ad K) fd := by
  obtain ⟨fd, F⟩ := W.d_Sender_next_piece
  refine ⟨fd, F.ok sc_Sender_next_piece (fun vs H Q E h => ?_) (fun cdv A outer s H vs Q E hr h => ?_), F⟩
  · obtain ⟨o, A', d, c, m, l, n, rfl, z1, z2, z3, q⟩ := h; rfl
  · obtain ⟨o, A', d, c, m, l, n, rfl, z1, z2, z3, q⟩ := h
    have hu := hu_of hr
    refine ⟨_, PSs.nox (pss_cons (ps_set (i := 5) sc_Sender_next_piece.nd rfl (Or.inl rfl) (pe_mt (ok_Sender_pipe (P := P) (K := K) W) (hr.mono (by decide)) (pv 0) (pa_cons (pv 2) pa_nil)))
      (pss_cons (ps_set (i := 6) sc_Sender_next_piece.nd rfl (Or.inl rfl) (pe_fn (ok_first_free (P := P) (K := K) W) (hr.mono (by decide)) (by rfl) (pa_cons (pe_get W.c_Sender W.n_Sender__sacked RSender.l_sacked (pv 0)) (pa_cons (pe_callB (call_max2 rfl) (by rfl) W.f_max bt_max (pa_cons (pe_get W.c_Sender W.n_Sender_resend RSender.l_resend (pv 0)) (pa_cons (pe_get W.c_Sender W.n_Sender_una RSender.l_una (pv 0)) pa_nil))) pa_nil))))
      (pss_cons (ps_if (PW.pt (pw_and (pt_cmpR op_lt (pv 6) (pe_callB (call_min2 rfl) (by rfl) W.f_min bt_min (pa_cons (pe_mt (ok_Sender__loss_end (P := P) (K := K) W) (hr.mono (by decide)) (pv 0) (pa_cons (pv 2) pa_nil)) (pa_cons (pe_get W.c_Sender W.n_Sender_nxt RSender.l_nxt (pv 0)) pa_nil))) (nomark _)) (pw_and1 (pt_cmpR op_lt (pv 5) (pv 1) (nomark _))))) pss_never pss_nil)
      (pss_cons (ps_if (pt_cmpR op_eq (pe_get W.c_Sender W.n_Sender_nxt RSender.l_nxt (pv 0)) pe_int (nomark _)) (pss_one (ps_ret (pe_mt (ok_Sender_piece (P := P) (K := K) W) (hr.mono (by decide)) (pv 0) (pa_cons pe_int (pa_cons pe_int pa_nil))))) pss_nil)
      (pss_cons (ps_if (pt_cmpR op_eq (pe_get W.c_Sender W.n_Sender_una RSender.l_una (pv 0)) pe_int (nomark _)) (pss_one (ps_ret pe_non)) pss_nil)
      pss_never))))), ?_⟩
    rcases q with ⟨hn, q⟩ | ⟨now, rfl, q⟩
    · walk_at "s"
      refine br_f (by simp [hn]) ?_
      walk_at "s"
      exact q
    · have z4 : H A'.q = some (.lst []) := z3
      walk_at "s"
      rename_i a b c1 d1 H1 f1 f2 f3 e1 h1
      exact q _ _ _ _ _ (by walk_at "fresh") (by walk_at "fresh") (by walk_at "fresh") (by walk_at "same") h1
theorem ok_Sender_next_piece_k (W : Wld K mg) : MFnK P w K mg base (He.ga K "Sender") "next_piece" 5 ["self", "cwnd", "mss", "allow", "nagle"] 1 ["cwnd", "mss", "allow", "nagle"] (fun vs zs => vs ++ zs) (spNextP K) := by
  obtain ⟨fd, F1, F⟩ := fo_Sender_next_piece (P := P) (w := w) (base := base) W
  have hb := kbAll F (ps := ["self", "cwnd", "mss", "allow", "nagle"]) 1 ["cwnd", "mss", "allow", "nagle"] (fun kV doc pm an cdv ct us ws l1 l2 => match us, l1, ws, l2 with | [_], _, [_, _, _, _], _ => by kernel_rfl)
  exact ⟨⟨_, fd, _, W.c_Sender, W.m_Sender_next_piece, F1, hb⟩⟩
theorem u_NextP1 {o : OptD} {A : EA} {d : EndD} {c m l : Int} {n : Bool} {H : Hp} {Q : VK} (h : SAt K H o A d) (h2 : H A.k = some (.lst [])) (h3 : H A.q = some (.lst (nis d.octs))) (hn : d.nxt = 1) (q : Q .non H) : spNextP K [.ref A.s, .int c, .int m, .int l, .bl n] H Q E0 :=
  ⟨o, A, d, c, m, l, n, rfl, h, h2, h3, .inl ⟨hn, q⟩⟩
theorem u_NextP0 {o : OptD} {A : EA} {now : Int} {c m l : Int} {n : Bool} {H : Hp} {Q : VK} (h : SAt K H o A (fr0 now)) (h2 : H A.k = some (.lst [])) (h3 : H A.q = some (.lst [])) (q : RPc K H Q) : spNextP K [.ref A.s, .int c, .int m, .int l, .bl n] H Q E0 :=
  ⟨o, A, fr0 now, c, m, l, n, rfl, h, h2, h3, .inr ⟨now, rfl, q⟩⟩
end
end
/-! part D7 -/
section
set_option maxHeartbeats 4000000
open PySem PySem.Spec PyProof.Rows L2 ClX

section
variable {P : Program} [PrOk P] {w : World} {K : PySem.W.Frag} {mg : Str → Option Value} {base : Heap}
abbrev EAt (K : PySem.W.Frag) (H : Hp) (oa : Addr) (o : OptD) (A : EA) (d : EndD) : Prop := H A.e = some (.ins (He.ga K "Endpoint") A.ed (REndpoint.fs (d.rE o oa A)))
theorem EndD.is_ended (d : EndD) : decide (V.str d.ph = V.str "ended") = d.ab := by
  unfold EndD.ph
  cases d.ab <;> rfl
theorem EndD.is_syn (d : EndD) : decide (V.str d.ph = V.str "syn sent") = !d.ab := by
  unfold EndD.ph
  cases d.ab <;> rfl
theorem EndD.in_ended (d : EndD) : inV (V.str d.ph) [V.str "ended", V.str "time wait"] = d.ab := by
  unfold EndD.ph
  cases d.ab <;> rfl
def spHasEnded (K : PySem.W.Frag) : Sp := fun vs H Q _ => ∃ (oa : Addr) (o : OptD) (A : EA) (d : EndD), vs = [.ref A.e] ∧ EAt K H oa o A d ∧ Q (.bl d.ab) H
abbrev N_Endpoint_has_ended : List Str := ["self"]
theorem sc_Endpoint_has_ended : FnScope N_Endpoint_has_ended ["self"] (defScope s_Endpoint_has_ended) := ⟨rfl, rfl, rfl, by decide +kernel, rfl, by decide +kernel, by decide +kernel⟩
theorem fo_Endpoint_has_ended (W : Wld K mg) : ∃ fd, FnOk P w K mg base CX0 1 (pl_Endpoint_has_ended.ad K) fd ["self"] (spHasEnded K) ∧ FunD K "has_ended" "Endpoint.has_ended" (defArgs s_Endpoint_has_ended) (defBody s_Endpoint_has_ended) (defScope s_Endpoint_has_ended) [] [] (pl_Endpoint_has_ended.ad K) fd := by
  obtain ⟨fd, F⟩ := W.d_Endpoint_has_ended
  refine ⟨fd, F.ok sc_Endpoint_has_ended (fun vs H Q E h => ?_) (fun cdv A outer s H vs Q E hr h => ?_), F⟩
  · obtain ⟨oa, o, A', d, rfl, z1, q⟩ := h; rfl
  · obtain ⟨oa, o, A', d, rfl, z1, q⟩ := h
    have hu := hu_of hr
    refine ⟨_, PSs.nox (pss_one (ps_ret (pe_cmpR op_eq (pe_get W.c_Endpoint W.n_Endpoint_phase REndpoint.l_phase (pv 0)) pe_str (nomark _)))), ?_⟩
    walk_at "s"
    exact lk_v q (congrArg V.bl (EndD.is_ended d).symm)
theorem ok_Endpoint_has_ended (W : Wld K mg) : PFn P w K mg base (He.ga K "Endpoint") "has_ended" 1 (spHasEnded K) := by
  obtain ⟨fd, F1, F⟩ := fo_Endpoint_has_ended (P := P) (w := w) (base := base) W
  exact ⟨⟨_, _, fd, W.c_Endpoint, W.p_Endpoint_has_ended, F1, F.bindsN fun _ _ _ _ _ _ us hl => match us, hl with | [_], _ => rfl⟩⟩
theorem u_HasEnded {oa : Addr} {o : OptD} {A : EA} {d : EndD} {H : Hp} {Q : VK} (h : EAt K H oa o A d) (q : Q (.bl d.ab) H) : spHasEnded K [.ref A.e] H Q E0 := ⟨oa, o, A, d, rfl, h, q⟩
local macro_rules | `(tactic| walk_at "s1") => `(tactic| first
  | (show spFlight _ _ _ _ _; refine' u_Flight ?k1 ?k2; (case k1 => walk_at "look"))
  | (show spFree _ _ _ _ _; refine' u_Free ?k1 ?k2 ?k3; (case k1 => walk_at "look"); (case k2 => walk_at "look"))
  | (show spAllDone _ _ _ _ _; refine' u_AllDone ?k1 ?k2; (case k1 => walk_at "look"))
  | (show spHasEnded _ _ _ _ _; refine' u_HasEnded ?k1 ?k2; (case k1 => walk_at "look")))
def spEFlight (K : PySem.W.Frag) : Sp := fun vs H Q _ => ∃ (oa : Addr) (o : OptD) (A : EA) (d : EndD), vs = [.ref A.e] ∧ EAt K H oa o A d ∧ SAt K H o A d ∧ Q (.int (d.nxt - 0)) H
abbrev N_Endpoint_flight : List Str := ["self"]
theorem sc_Endpoint_flight : FnScope N_Endpoint_flight ["self"] (defScope s_Endpoint_flight) := ⟨rfl, rfl, rfl, by decide +kernel, rfl, by decide +kernel, by decide +kernel⟩
theorem fo_Endpoint_flight (W : Wld K mg) : ∃ fd, FnOk P w K mg base CX0 3 (pl_Endpoint_flight.ad K) fd ["self"] (spEFlight K) ∧ FunD K "flight" "Endpoint.flight" (defArgs s_Endpoint_flight) (defBody s_Endpoint_flight) (defScope s_Endpoint_flight) [] [] (pl_Endpoint_flight.ad K) fd := by
  obtain ⟨fd, F⟩ := W.d_Endpoint_flight
  refine ⟨fd, F.ok sc_Endpoint_flight (fun vs H Q E h => ?_) (fun cdv A outer s H vs Q E hr h => ?_), F⟩
  · obtain ⟨oa, o, A', d, rfl, z1, z2, q⟩ := h; rfl
  · obtain ⟨oa, o, A', d, rfl, z1, z2, q⟩ := h
    have hu := hu_of hr
    refine ⟨_, PSs.nox (pss_one (ps_ret (pe_pr (ok_Sender_flight (P := P) (K := K) W) (hr.mono (by decide)) (pe_get W.c_Endpoint W.n_Endpoint_sender REndpoint.l_sender (pv 0)) rfl))), ?_⟩
    walk_at "s"
    exact q
theorem ok_Endpoint_flight (W : Wld K mg) : PFn P w K mg base (He.ga K "Endpoint") "flight" 3 (spEFlight K) := by
  obtain ⟨fd, F1, F⟩ := fo_Endpoint_flight (P := P) (w := w) (base := base) W
  exact ⟨⟨_, _, fd, W.c_Endpoint, W.p_Endpoint_flight, F1, F.bindsN fun _ _ _ _ _ _ us hl => match us, hl with | [_], _ => rfl⟩⟩
theorem u_EFlight {oa : Addr} {o : OptD} {A : EA} {d : EndD} {H : Hp} {Q : VK} (h : EAt K H oa o A d) (h2 : SAt K H o A d) (q : Q (.int (d.nxt - 0)) H) : spEFlight K [.ref A.e] H Q E0 := ⟨oa, o, A, d, rfl, h, h2, q⟩
abbrev TAt (K : PySem.W.Frag) (H : Hp) (o : OptD) (A : EA) : Prop := H A.t = some (.ins (He.ga K "RoundTrip") A.td (RRoundTrip.fs o.rT))
abbrev RAt (K : PySem.W.Frag) (H : Hp) (o : OptD) (A : EA) : Prop := H A.r = some (.ins (He.ga K "Receiver") A.rd (RReceiver.fs (o.rR A)))
def spTimeout (K : PySem.W.Frag) : Sp := fun vs H Q _ => ∃ (oa : Addr) (o : OptD) (A : EA) (d : EndD), vs = [.ref A.e] ∧ EAt K H oa o A d ∧ TAt K H o A ∧ Q (.int o.wait) H
abbrev N_Endpoint_timeout : List Str := ["self"]
theorem sc_Endpoint_timeout : FnScope N_Endpoint_timeout ["self"] (defScope s_Endpoint_timeout) := ⟨rfl, rfl, rfl, by decide +kernel, rfl, by decide +kernel, by decide +kernel⟩
theorem fo_Endpoint_timeout (W : Wld K mg) : ∃ fd, FnOk P w K mg base CX0 1 (pl_Endpoint_timeout.ad K) fd ["self"] (spTimeout K) ∧ FunD K "timeout" "Endpoint.timeout" (defArgs s_Endpoint_timeout) (defBody s_Endpoint_timeout) (defScope s_Endpoint_timeout) [] [] (pl_Endpoint_timeout.ad K) fd := by
  obtain ⟨fd, F⟩ := W.d_Endpoint_timeout
  refine ⟨fd, F.ok sc_Endpoint_timeout (fun vs H Q E h => ?_) (fun cdv A outer s H vs Q E hr h => ?_), F⟩
  · obtain ⟨oa, o, A', d, rfl, z1, z2, q⟩ := h; rfl
  · obtain ⟨oa, o, A', d, rfl, z1, z2, q⟩ := h
    have hu := hu_of hr
    refine ⟨_, PSs.nox (pss_one (ps_ret (pe_get W.c_RoundTrip W.n_RoundTrip_rto RRoundTrip.l_rto (pe_get W.c_Endpoint W.n_Endpoint_trip REndpoint.l_trip (pv 0))))), ?_⟩
    walk_at "s"
    exact q
theorem ok_Endpoint_timeout (W : Wld K mg) : PFn P w K mg base (He.ga K "Endpoint") "timeout" 1 (spTimeout K) := by
  obtain ⟨fd, F1, F⟩ := fo_Endpoint_timeout (P := P) (w := w) (base := base) W
  exact ⟨⟨_, _, fd, W.c_Endpoint, W.p_Endpoint_timeout, F1, F.bindsN fun _ _ _ _ _ _ us hl => match us, hl with | [_], _ => rfl⟩⟩
theorem u_Timeout {oa : Addr} {o : OptD} {A : EA} {d : EndD} {H : Hp} {Q : VK} (h : EAt K H oa o A d) (h2 : TAt K H o A) (q : Q (.int o.wait) H) : spTimeout K [.ref A.e] H Q E0 := ⟨oa, o, A, d, rfl, h, h2, q⟩
def spReady (K : PySem.W.Frag) : Sp := fun vs H Q _ => ∃ (o : OptD) (A : EA), vs = [.ref A.r] ∧ RAt K H o A ∧ H A.y = some (.lst []) ∧ Q (.int 0) H
abbrev N_Receiver_ready : List Str := ["self"]
theorem sc_Receiver_ready : FnScope N_Receiver_ready ["self"] (defScope s_Receiver_ready) := ⟨rfl, rfl, rfl, by decide +kernel, rfl, by decide +kernel, by decide +kernel⟩
theorem fo_Receiver_ready (W : Wld K mg) : ∃ fd, FnOk P w K mg base CX0 1 (pl_Receiver_ready.ad K) fd ["self"] (spReady K) ∧ FunD K "ready" "Receiver.ready" (defArgs s_Receiver_ready) (defBody s_Receiver_ready) (defScope s_Receiver_ready) [] [] (pl_Receiver_ready.ad K) fd := by
  obtain ⟨fd, F⟩ := W.d_Receiver_ready
  refine ⟨fd, F.ok sc_Receiver_ready (fun vs H Q E h => ?_) (fun cdv A outer s H vs Q E hr h => ?_), F⟩
  · obtain ⟨o, A', rfl, z1, z2, q⟩ := h; rfl
  · obtain ⟨o, A', rfl, z1, z2, q⟩ := h
    have hu := hu_of hr
    refine ⟨_, PSs.nox (pss_one (ps_ret (pe_callB call_len_seq (by rfl) W.f_len boot_len (pa_cons (pe_get W.c_Receiver W.n_Receiver__ready RReceiver.l_ready (pv 0)) pa_nil)))), ?_⟩
    walk_at "s"
    exact q
theorem ok_Receiver_ready (W : Wld K mg) : PFn P w K mg base (He.ga K "Receiver") "ready" 1 (spReady K) := by
  obtain ⟨fd, F1, F⟩ := fo_Receiver_ready (P := P) (w := w) (base := base) W
  exact ⟨⟨_, _, fd, W.c_Receiver, W.p_Receiver_ready, F1, F.bindsN fun _ _ _ _ _ _ us hl => match us, hl with | [_], _ => rfl⟩⟩
theorem u_Ready {o : OptD} {A : EA} {H : Hp} {Q : VK} (h : RAt K H o A) (h2 : H A.y = some (.lst [])) (q : Q (.int 0) H) : spReady K [.ref A.r] H Q E0 := ⟨o, A, rfl, h, h2, q⟩
def spEndTaken (K : PySem.W.Frag) : Sp := fun vs H Q _ => ∃ (o : OptD) (A : EA), vs = [.ref A.r] ∧ RAt K H o A ∧ Q (.bl false) H
abbrev N_Receiver_end_taken : List Str := ["self"]
theorem sc_Receiver_end_taken : FnScope N_Receiver_end_taken ["self"] (defScope s_Receiver_end_taken) := ⟨rfl, rfl, rfl, by decide +kernel, rfl, by decide +kernel, by decide +kernel⟩
theorem fo_Receiver_end_taken (W : Wld K mg) : ∃ fd, FnOk P w K mg base CX0 1 (pl_Receiver_end_taken.ad K) fd ["self"] (spEndTaken K) ∧ FunD K "end_taken" "Receiver.end_taken" (defArgs s_Receiver_end_taken) (defBody s_Receiver_end_taken) (defScope s_Receiver_end_taken) [] [] (pl_Receiver_end_taken.ad K) fd := by
  obtain ⟨fd, F⟩ := W.d_Receiver_end_taken
  refine ⟨fd, F.ok sc_Receiver_end_taken (fun vs H Q E h => ?_) (fun cdv A outer s H vs Q E hr h => ?_), F⟩
  · obtain ⟨o, A', rfl, z1, q⟩ := h; rfl
  · obtain ⟨o, A', rfl, z1, q⟩ := h
    have hu := hu_of hr
    refine ⟨_, PSs.nox (pss_one (ps_ret (pe_and (pe_cmpR op_notN (pe_get W.c_Receiver W.n_Receiver_end RReceiver.l_end_ (pv 0)) pe_non (nomark _)) (pe_one (pe_cmpR op_lt (pe_get W.c_Receiver W.n_Receiver_end RReceiver.l_end_ (pv 0)) (pe_get W.c_Receiver W.n_Receiver_nxt RReceiver.l_nxt (pv 0)) (nomark _)))))), ?_⟩
    walk_at "s"
    exact q
theorem ok_Receiver_end_taken (W : Wld K mg) : PFn P w K mg base (He.ga K "Receiver") "end_taken" 1 (spEndTaken K) := by
  obtain ⟨fd, F1, F⟩ := fo_Receiver_end_taken (P := P) (w := w) (base := base) W
  exact ⟨⟨_, _, fd, W.c_Receiver, W.p_Receiver_end_taken, F1, F.bindsN fun _ _ _ _ _ _ us hl => match us, hl with | [_], _ => rfl⟩⟩
theorem u_EndTaken {o : OptD} {A : EA} {H : Hp} {Q : VK} (h : RAt K H o A) (q : Q (.bl false) H) : spEndTaken K [.ref A.r] H Q E0 := ⟨o, A, rfl, h, q⟩
local macro_rules | `(tactic| walk_at "s1") => `(tactic| first
  | (show spEFlight _ _ _ _ _; refine' u_EFlight ?k1 ?k2 ?k3; (case k1 => walk_at "look"); (case k2 => walk_at "look"))
  | (show spTimeout _ _ _ _ _; refine' u_Timeout ?k1 ?k2 ?k3; (case k1 => walk_at "look"); (case k2 => walk_at "look"))
  | (show spReady _ _ _ _ _; refine' u_Ready ?k1 ?k2 ?k3; (case k1 => walk_at "look"); (case k2 => walk_at "look"))
  | (show spEndTaken _ _ _ _ _; refine' u_EndTaken ?k1 ?k2; (case k1 => walk_at "look")))
def spAtEnd (K : PySem.W.Frag) : Sp := fun vs H Q _ => ∃ (o : OptD) (A : EA), vs = [.ref A.r] ∧ RAt K H o A ∧ Q (.bl false) H
abbrev N_Receiver_at_end : List Str := ["self"]
theorem sc_Receiver_at_end : FnScope N_Receiver_at_end ["self"] (defScope s_Receiver_at_end) := ⟨rfl, rfl, rfl, by decide +kernel, rfl, by decide +kernel, by decide +kernel⟩
theorem fo_Receiver_at_end (W : Wld K mg) : ∃ fd, FnOk P w K mg base CX0 3 (pl_Receiver_at_end.ad K) fd ["self"] (spAtEnd K) ∧ FunD K "at_end" "Receiver.at_end" (defArgs s_Receiver_at_end) (defBody s_Receiver_at_end) (defScope s_Receiver_at_end) [] [] (pl_Receiver_at_end.ad K) fd := by
  obtain ⟨fd, F⟩ := W.d_Receiver_at_end
  refine ⟨fd, F.ok sc_Receiver_at_end (fun vs H Q E h => ?_) (fun cdv A outer s H vs Q E hr h => ?_), F⟩
  · obtain ⟨o, A', rfl, z1, q⟩ := h; rfl
  · obtain ⟨o, A', rfl, z1, q⟩ := h
    have hu := hu_of hr
    refine ⟨_, PSs.nox (pss_one (ps_ret (pe_and (pe_pr (ok_Receiver_end_taken (P := P) (K := K) W) (hr.mono (by decide)) (pv 0) rfl) (pe_one (pe_cmpR op_eq (pe_callB call_len_seq (by rfl) W.f_len boot_len (pa_cons (pe_get W.c_Receiver W.n_Receiver__ready RReceiver.l_ready (pv 0)) pa_nil)) pe_int (nomark _)))))), ?_⟩
    walk_at "s"
    exact q
theorem ok_Receiver_at_end (W : Wld K mg) : PFn P w K mg base (He.ga K "Receiver") "at_end" 3 (spAtEnd K) := by
  obtain ⟨fd, F1, F⟩ := fo_Receiver_at_end (P := P) (w := w) (base := base) W
  exact ⟨⟨_, _, fd, W.c_Receiver, W.p_Receiver_at_end, F1, F.bindsN fun _ _ _ _ _ _ us hl => match us, hl with | [_], _ => rfl⟩⟩
theorem u_AtEnd {o : OptD} {A : EA} {H : Hp} {Q : VK} (h : RAt K H o A) (q : Q (.bl false) H) : spAtEnd K [.ref A.r] H Q E0 := ⟨o, A, rfl, h, q⟩
def RE (K : PySem.W.Frag) (oa : Addr) (o : OptD) (A : EA) (d : EndD) (H : Hp) (Q : VK) : Prop := ∀ H', Kp [A.e] H H' → EAt K H' oa o A d → Q .non H'
def spClose (K : PySem.W.Frag) : Sp := fun vs H Q _ => ∃ (oa : Addr) (o : OptD) (A : EA) (d : EndD), vs = [.ref A.e, .str "aborted"] ∧ EAt K H oa o A d ∧ RE K oa o A { d with ab := true } H Q
abbrev N_Endpoint_close : List Str := ["self", "cause"]
theorem sc_Endpoint_close : FnScope N_Endpoint_close ["self", "cause"] (defScope s_Endpoint_close) := ⟨rfl, rfl, rfl, by decide +kernel, rfl, by decide +kernel, by decide +kernel⟩
theorem fo_Endpoint_close (W : Wld K mg) : ∃ fd, FnOk P w K mg base CX0 1 (pl_Endpoint_close.ad K) fd ["self", "cause"] (spClose K) ∧ FunD K "close" "Endpoint.close" (defArgs s_Endpoint_close) (defBody s_Endpoint_close) (defScope s_Endpoint_close) [] [] (pl_Endpoint_close.ad K) fd := by
  obtain ⟨fd, F⟩ := W.d_Endpoint_close
  refine ⟨fd, F.ok sc_Endpoint_close (fun vs H Q E h => ?_) (fun cdv A outer s H vs Q E hr h => ?_), F⟩
  · obtain ⟨oa, o, A', d, rfl, z1, q⟩ := h; rfl
  · obtain ⟨oa, o, A', d, rfl, z1, q⟩ := h
    have hu := hu_of hr
    refine ⟨_, PSs.nox (pss_cons (ps_put W.c_Endpoint W.n_Endpoint_phase REndpoint.p_phase REndpoint.len (pv 0) pe_str)
      (pss_one (ps_put W.c_Endpoint W.n_Endpoint_cause REndpoint.p_cause REndpoint.len (pv 0) (pv 1)))), ?_⟩
    walk_at "s"
    exact q _ (by walk_at "kp") (by walk_at "ins")
theorem ok_Endpoint_close (W : Wld K mg) : MFn P w K mg base (He.ga K "Endpoint") "close" 1 ["self", "cause"] [] (spClose K) := by
  obtain ⟨fd, F1, F⟩ := fo_Endpoint_close (P := P) (w := w) (base := base) W
  exact ⟨⟨_, fd, [], W.c_Endpoint, W.m_Endpoint_close, F1, F.bindsN fun _ _ _ _ _ _ us hl => match us, hl with | [_, _], _ => rfl, .nil⟩⟩
theorem u_Close {oa : Addr} {o : OptD} {A : EA} {d : EndD} {H : Hp} {Q : VK} (h : EAt K H oa o A d) (q : RE K oa o A { d with ab := true } H Q) : spClose K [.ref A.e, .str "aborted"] H Q E0 := ⟨oa, o, A, d, rfl, h, q⟩
def spWait (K : PySem.W.Frag) : Sp := fun vs H Q _ => ∃ (oa : Addr) (o : OptD) (A : EA) (d : EndD) (now : Int), vs = [.ref A.e, .int now] ∧ EAt K H oa o A d ∧ TAt K H o A ∧ A.t ≠ A.e ∧ RE K oa o A { d with alarm := .int (now + o.wait), since := now } H Q
abbrev N_Endpoint_wait : List Str := ["self", "now"]
theorem sc_Endpoint_wait : FnScope N_Endpoint_wait ["self", "now"] (defScope s_Endpoint_wait) := ⟨rfl, rfl, rfl, by decide +kernel, rfl, by decide +kernel, by decide +kernel⟩
theorem fo_Endpoint_wait (W : Wld K mg) : ∃ fd, FnOk P w K mg base CX0 3 (pl_Endpoint_wait.ad K) fd ["self", "now"] (spWait K) ∧ FunD K "wait" "Endpoint.wait" (defArgs s_Endpoint_wait) (defBody s_Endpoint_wait) (defScope s_Endpoint_wait) [] [] (pl_Endpoint_wait.ad K) fd := by
  obtain ⟨fd, F⟩ := W.d_Endpoint_wait
  refine ⟨fd, F.ok sc_Endpoint_wait (fun vs H Q E h => ?_) (fun cdv A outer s H vs Q E hr h => ?_), F⟩
  · obtain ⟨oa, o, A', d, now, rfl, z1, z2, n1, q⟩ := h; rfl
  · obtain ⟨oa, o, A', d, now, rfl, z1, z2, n1, q⟩ := h
    have hu := hu_of hr
    refine ⟨_, PSs.nox (pss_cons (ps_put W.c_Endpoint W.n_Endpoint_alarm REndpoint.p_alarm REndpoint.len (pv 0) (pe_op op_add (pv 1) (pe_pr (ok_Endpoint_timeout (P := P) (K := K) W) (hr.mono (by decide)) (pv 0) rfl)))
      (pss_one (ps_put W.c_Endpoint W.n_Endpoint_since REndpoint.p_since REndpoint.len (pv 0) (pv 1)))), ?_⟩
    walk_at "s"
    exact q _ (by walk_at "kp") (by walk_at "ins")
theorem ok_Endpoint_wait (W : Wld K mg) : MFn P w K mg base (He.ga K "Endpoint") "wait" 3 ["self", "now"] [] (spWait K) := by
  obtain ⟨fd, F1, F⟩ := fo_Endpoint_wait (P := P) (w := w) (base := base) W
  exact ⟨⟨_, fd, [], W.c_Endpoint, W.m_Endpoint_wait, F1, F.bindsN fun _ _ _ _ _ _ us hl => match us, hl with | [_, _], _ => rfl, .nil⟩⟩
theorem u_Wait {oa : Addr} {o : OptD} {A : EA} {d : EndD} {now : Int} {H : Hp} {Q : VK} (h : EAt K H oa o A d) (h2 : TAt K H o A) (n : A.t ≠ A.e) (q : RE K oa o A { d with alarm := .int (now + o.wait), since := now } H Q) : spWait K [.ref A.e, .int now] H Q E0 := ⟨oa, o, A, d, now, rfl, h, h2, n, q⟩
def spNeeds (K : PySem.W.Frag) : Sp := fun vs H Q _ => ∃ (oa : Addr) (o : OptD) (A : EA) (d : EndD), vs = [.ref A.e] ∧ EAt K H oa o A d ∧ SAt K H o A d ∧ (d.ab = true ∨ d.nxt = 1) ∧ RV (.bl (!d.ab)) H Q
--OVER needs {'self.sender.unsent': ('pe_nv', 'bool')}
abbrev N_Endpoint_needs_answer : List Str := ["self"]
theorem sc_Endpoint_needs_answer : FnScope N_Endpoint_needs_answer ["self"] (defScope s_Endpoint_needs_answer) := ⟨rfl, rfl, rfl, by decide +kernel, rfl, by decide +kernel, by decide +kernel⟩
theorem fo_Endpoint_needs_answer (W : Wld K mg) : ∃ fd, FnOk P w K mg base CX0 3 (pl_Endpoint_needs_answer.ad K) fd ["self"] (spNeeds K) ∧ FunD K "needs_answer" "Endpoint.needs_answer" (defArgs s_Endpoint_needs_answer) (defBody s_Endpoint_needs_answer) (defScope s_Endpoint_needs_answer) [] [] (pl_Endpoint_needs_answer.ad K) fd := by
  obtain ⟨fd, F⟩ := W.d_Endpoint_needs_answer
  refine ⟨fd, F.ok sc_Endpoint_needs_answer (fun vs H Q E h => ?_) (fun cdv A outer s H vs Q E hr h => ?_), F⟩
  · obtain ⟨oa, o, A', d, rfl, z1, z2, hn, q⟩ := h; rfl
  · obtain ⟨oa, o, A', d, rfl, z1, z2, hn, q⟩ := h
    have hu := hu_of hr
    refine ⟨_, PSs.nox (pss_cons (ps_if (pt_cmpR op_in_seq (pe_get W.c_Endpoint W.n_Endpoint_phase REndpoint.l_phase (pv 0)) (pe_tup (pa_cons pe_str (pa_cons pe_str pa_nil))) (by rfl)) (pss_one (ps_ret pe_bl)) pss_nil)
      (pss_one (ps_ret (pe_or (pe_cmpR op_gt (pe_pr (ok_Sender_flight (P := P) (K := K) W) (hr.mono (by decide)) (pe_get W.c_Endpoint W.n_Endpoint_sender REndpoint.l_sender (pv 0)) rfl) pe_int (nomark _)) (pe_one pe_nv))))), ?_⟩
    walk_at "s"
    rcases hn with hn | hn
    · refine br_t (by show inV (V.str d.ph) _ = true; rw [EndD.in_ended, hn]) ?_
      walk_at "s"
      rw [hn] at q
      exact q _ (by walk_at "same")
    · cases hb : d.ab
      · refine br_f (by show inV (V.str d.ph) _ = false; rw [EndD.in_ended, hb]) ?_
        walk_at "s"
        rw [hb] at q
        exact q _ (by walk_at "same")
      · refine br_t (by show inV (V.str d.ph) _ = true; rw [EndD.in_ended, hb]) ?_
        walk_at "s"
        rw [hb] at q
        exact q _ (by walk_at "same")
theorem ok_Endpoint_needs_answer (W : Wld K mg) : PFn P w K mg base (He.ga K "Endpoint") "needs_answer" 3 (spNeeds K) := by
  obtain ⟨fd, F1, F⟩ := fo_Endpoint_needs_answer (P := P) (w := w) (base := base) W
  exact ⟨⟨_, _, fd, W.c_Endpoint, W.p_Endpoint_needs_answer, F1, F.bindsN fun _ _ _ _ _ _ us hl => match us, hl with | [_], _ => rfl⟩⟩
theorem u_Needs {oa : Addr} {o : OptD} {A : EA} {d : EndD} {H : Hp} {Q : VK} (h : EAt K H oa o A d) (h2 : SAt K H o A d) (hn : d.ab = true ∨ d.nxt = 1) (q : RV (.bl (!d.ab)) H Q) : spNeeds K [.ref A.e] H Q E0 := ⟨oa, o, A, d, rfl, h, h2, hn, q⟩
local macro_rules | `(tactic| walk_at "s1") => `(tactic| first
  | (show spNeeds _ _ _ _ _; refine' u_Needs ?k1 ?k2 ?k3 ?k4; (case k1 => walk_at "look"); (case k2 => walk_at "look"); (case k3 => assumption))
  | (show spWait _ _ _ _ _; refine' u_Wait ?k1 ?k2 ?k3 ?k4; (case k1 => walk_at "look"); (case k2 => walk_at "look"); (case k3 => assumption))
  | ((with_reducible show RE _ _ _ _ _ _ _); intro H9 e9 h9))
def spWind (K : PySem.W.Frag) : Sp := fun vs H Q _ => ∃ (oa : Addr) (o : OptD) (A : EA) (d : EndD) (now z : Int), vs = [.ref A.e, .int now] ∧ EAt K H oa o A d ∧ SAt K H o A d ∧ (d.ab = true ∨ d.nxt = 1) ∧ d.alarm = .int z ∧ RV .non H Q
--OVER wind {'self.wait(now)': ('pe_nv', 'bool')}
abbrev N_Endpoint_wind : List Str := ["self", "now"]
theorem sc_Endpoint_wind : FnScope N_Endpoint_wind ["self", "now"] (defScope s_Endpoint_wind) := ⟨rfl, rfl, rfl, by decide +kernel, rfl, by decide +kernel, by decide +kernel⟩
theorem fo_Endpoint_wind (W : Wld K mg) : ∃ fd, FnOk P w K mg base CX0 5 (pl_Endpoint_wind.ad K) fd ["self", "now"] (spWind K) ∧ FunD K "wind" "Endpoint.wind" (defArgs s_Endpoint_wind) (defBody s_Endpoint_wind) (defScope s_Endpoint_wind) [] [] (pl_Endpoint_wind.ad K) fd := by
  obtain ⟨fd, F⟩ := W.d_Endpoint_wind
  refine ⟨fd, F.ok sc_Endpoint_wind (fun vs H Q E h => ?_) (fun cdv A outer s H vs Q E hr h => ?_), F⟩
  · obtain ⟨oa, o, A', d, now, z, rfl, z1, z2, hn, ha, q⟩ := h; rfl
  · obtain ⟨oa, o, A', d, now, z, rfl, z1, z2, hn, ha, q⟩ := h
    have hu := hu_of hr
    refine ⟨_, PSs.nox (pss_one (ps_if (PW.pt (pw_and (pt_val (pe_pr (ok_Endpoint_needs_answer (P := P) (K := K) W) (hr.mono (by decide)) (pv 0) rfl)) (pw_and1 (pt_cmpR op_isN (pe_get W.c_Endpoint W.n_Endpoint_alarm REndpoint.l_alarm (pv 0)) pe_non (nomark _))))) (pss_one (ps_expr pe_nv)) pss_nil)), ?_⟩
    cases hb : d.ab
    · rw [hb] at hn
      have hn : d.ab = true ∨ d.nxt = 1 := by rw [hb]; exact hn
      walk_at "s"
      refine br_t (by rw [hb]; rfl) ?_
      walk_at "s"
      refine br_f (by show (decide (d.alarm = V.non)) = false; rw [ha]; rfl) ?_
      walk_at "s"
      exact q _ (by walk_at "same")
    · walk_at "s"
      refine br_f (by rw [hb]; rfl) ?_
      walk_at "s"
      exact q _ (by walk_at "same")
theorem ok_Endpoint_wind (W : Wld K mg) : MFn P w K mg base (He.ga K "Endpoint") "wind" 5 ["self", "now"] [] (spWind K) := by
  obtain ⟨fd, F1, F⟩ := fo_Endpoint_wind (P := P) (w := w) (base := base) W
  exact ⟨⟨_, fd, [], W.c_Endpoint, W.m_Endpoint_wind, F1, F.bindsN fun _ _ _ _ _ _ us hl => match us, hl with | [_, _], _ => rfl, .nil⟩⟩
theorem u_Wind {oa : Addr} {o : OptD} {A : EA} {d : EndD} {now z : Int} {H : Hp} {Q : VK} (h : EAt K H oa o A d) (h2 : SAt K H o A d) (hn : d.ab = true ∨ d.nxt = 1) (ha : d.alarm = .int z) (q : RV .non H Q) : spWind K [.ref A.e, .int now] H Q E0 := ⟨oa, o, A, d, now, z, rfl, h, h2, hn, ha, q⟩
def spNReset (K : PySem.W.Frag) : Sp := fun vs H Q _ => ∃ (oa : Addr) (o : OptD) (A : EA) (d : EndD), vs = [.ref A.e] ∧ EAt K H oa o A d ∧ Q .non H
abbrev N_next_reset : List Str := ["end"]
theorem sc_next_reset : FnScope N_next_reset ["end"] (defScope s_next_reset) := ⟨rfl, rfl, rfl, by decide +kernel, rfl, by decide +kernel, by decide +kernel⟩
theorem fo_next_reset (W : Wld K mg) : ∃ fd, FnOk P w K mg base CX0 1 (pl_next_reset.ad K) fd ["end"] (spNReset K) ∧ FunD K "next_reset" "next_reset" (defArgs s_next_reset) (defBody s_next_reset) (defScope s_next_reset) [] [] (pl_next_reset.ad K) fd := by
  obtain ⟨fd, F⟩ := W.d_next_reset
  refine ⟨fd, F.ok sc_next_reset (fun vs H Q E h => ?_) (fun cdv A outer s H vs Q E hr h => ?_), F⟩
  · obtain ⟨oa, o, A', d, rfl, z1, q⟩ := h; rfl
  · obtain ⟨oa, o, A', d, rfl, z1, q⟩ := h
    have hu := hu_of hr
    refine ⟨_, PSs.nox (pss_cons (ps_if (pt_not (pt_val (pe_get W.c_Endpoint W.n_Endpoint_over REndpoint.l_over (pv 0)))) (pss_one (ps_ret pe_non)) pss_nil)
      pss_never), ?_⟩
    walk_at "s"
    exact q
theorem ok_next_reset (W : Wld K mg) : GFn P w K mg base "next_reset" 1 ["end"] (spNReset K) := by
  obtain ⟨fd, F1, F⟩ := fo_next_reset (P := P) (w := w) (base := base) W
  exact ⟨⟨_, fd, F1, W.g_next_reset, F.kp, F.bindsN fun _ _ _ _ _ _ us hl => match us, hl with | [_], _ => rfl⟩⟩
theorem u_NReset {oa : Addr} {o : OptD} {A : EA} {d : EndD} {H : Hp} {Q : VK} (h : EAt K H oa o A d) (q : Q .non H) : spNReset K [.ref A.e] H Q E0 := ⟨oa, o, A, d, rfl, h, q⟩
abbrev OAt (K : PySem.W.Frag) (H : Hp) (oa od : Addr) (o : OptD) : Prop := H oa = some (.ins (He.ga K "Options") od (ROptions.fs o.r))
def spAllow (K : PySem.W.Frag) : Sp := fun vs H Q _ => ∃ (oa od : Addr) (o : OptD) (A : EA) (d : EndD) (now : Int), vs = [.ref A.e, .int now] ∧ EAt K H oa o A d ∧ OAt K H oa od o ∧ ∀ v : Int, Q (.int v) H
abbrev N_allowance : List Str := ["end", "now"]
theorem sc_allowance : FnScope N_allowance ["end", "now"] (defScope s_allowance) := ⟨rfl, rfl, rfl, by decide +kernel, rfl, by decide +kernel, by decide +kernel⟩
theorem fo_allowance (W : Wld K mg) : ∃ fd, FnOk P w K mg base CX0 1 (pl_allowance.ad K) fd ["end", "now"] (spAllow K) ∧ FunD K "allowance" "allowance" (defArgs s_allowance) (defBody s_allowance) (defScope s_allowance) [] [] (pl_allowance.ad K) fd := by
  obtain ⟨fd, F⟩ := W.d_allowance
  refine ⟨fd, F.ok sc_allowance (fun vs H Q E h => ?_) (fun cdv A outer s H vs Q E hr h => ?_), F⟩
  · obtain ⟨oa, od, o, A', d, now, rfl, z1, z2, q⟩ := h; rfl
  · obtain ⟨oa, od, o, A', d, now, rfl, z1, z2, q⟩ := h
    have hu := hu_of hr
    refine ⟨_, PSs.nox (pss_cons (ps_if (pt_cmpR op_eq (pe_get W.c_Endpoint W.n_Endpoint_spent_at REndpoint.l_spent_at (pv 0)) (pv 1) (nomark _)) (pss_one (ps_ret (pe_callB (call_max2 rfl) (by rfl) W.f_max bt_max (pa_cons pe_int (pa_cons (pe_op op_sub (pe_get W.c_Options W.n_Options_pace ROptions.l_pace (pe_get W.c_Endpoint W.n_Endpoint_options REndpoint.l_options (pv 0))) (pe_get W.c_Endpoint W.n_Endpoint_spent REndpoint.l_spent (pv 0))) pa_nil))))) pss_nil)
      (pss_one (ps_ret (pe_get W.c_Options W.n_Options_pace ROptions.l_pace (pe_get W.c_Endpoint W.n_Endpoint_options REndpoint.l_options (pv 0)))))), ?_⟩
    walk_at "s"
    refine br_2 (fun e => ?_) (fun e => ?_)
    · walk_at "s"
      exact q _
    · walk_at "s"
      exact q _
theorem ok_allowance (W : Wld K mg) : GFn P w K mg base "allowance" 1 ["end", "now"] (spAllow K) := by
  obtain ⟨fd, F1, F⟩ := fo_allowance (P := P) (w := w) (base := base) W
  exact ⟨⟨_, fd, F1, W.g_allowance, F.kp, F.bindsN fun _ _ _ _ _ _ us hl => match us, hl with | [_, _], _ => rfl⟩⟩
theorem u_Allow {oa od : Addr} {o : OptD} {A : EA} {d : EndD} {now : Int} {H : Hp} {Q : VK} (h : EAt K H oa o A d) (h2 : OAt K H oa od o) (q : ∀ v : Int, Q (.int v) H) : spAllow K [.ref A.e, .int now] H Q E0 := ⟨oa, od, o, A, d, now, rfl, h, h2, q⟩
def spSpend (K : PySem.W.Frag) : Sp := fun vs H Q _ => ∃ (oa : Addr) (o : OptD) (A : EA) (d : EndD) (now : Int), vs = [.ref A.e, .int 0, .int now] ∧ d.at_ = now ∧ EAt K H oa o A d ∧ RE K oa o A d H Q
abbrev N_spend : List Str := ["end", "count", "now"]
theorem sc_spend : FnScope N_spend ["end", "count", "now"] (defScope s_spend) := ⟨rfl, rfl, rfl, by decide +kernel, rfl, by decide +kernel, by decide +kernel⟩
theorem fo_spend (W : Wld K mg) : ∃ fd, FnOk P w K mg base CX0 1 (pl_spend.ad K) fd ["end", "count", "now"] (spSpend K) ∧ FunD K "spend" "spend" (defArgs s_spend) (defBody s_spend) (defScope s_spend) [] [] (pl_spend.ad K) fd := by
  obtain ⟨fd, F⟩ := W.d_spend
  refine ⟨fd, F.ok sc_spend (fun vs H Q E h => ?_) (fun cdv A outer s H vs Q E hr h => ?_), F⟩
  · obtain ⟨oa, o, A', d, now, rfl, rfl, z1, q⟩ := h; rfl
  · obtain ⟨oa, o, A', d, now, rfl, rfl, z1, q⟩ := h
    have hu := hu_of hr
    refine ⟨_, PSs.nox (pss_cons (ps_if (pt_cmpR op_ne (pe_get W.c_Endpoint W.n_Endpoint_spent_at REndpoint.l_spent_at (pv 0)) (pv 2) (nomark _)) (pss_cons (ps_put W.c_Endpoint W.n_Endpoint_spent REndpoint.p_spent REndpoint.len (pv 0) pe_int)
      (pss_one (ps_put W.c_Endpoint W.n_Endpoint_spent_at REndpoint.p_spent_at REndpoint.len (pv 0) (pv 2)))) pss_nil)
      (pss_one (ps_putaug W.c_Endpoint W.n_Endpoint_spent REndpoint.l_spent REndpoint.p_spent REndpoint.len (pv 0) (pv 1) in_add))), ?_⟩
    walk_at "s"
    refine br_f (by simp) ?_
    walk_at "s"
    exact q _ (by walk_at "kp") (by walk_at "ins")
theorem ok_spend (W : Wld K mg) : GFn P w K mg base "spend" 1 ["end", "count", "now"] (spSpend K) := by
  obtain ⟨fd, F1, F⟩ := fo_spend (P := P) (w := w) (base := base) W
  exact ⟨⟨_, fd, F1, W.g_spend, F.kp, F.bindsN fun _ _ _ _ _ _ us hl => match us, hl with | [_, _, _], _ => rfl⟩⟩
theorem u_Spend {oa : Addr} {o : OptD} {A : EA} {d : EndD} {now : Int} {H : Hp} {Q : VK} (e : d.at_ = now) (h : EAt K H oa o A d) (q : RE K oa o A d H Q) : spSpend K [.ref A.e, .int 0, .int now] H Q E0 := ⟨oa, o, A, d, now, rfl, e, h, q⟩
end
end
/-! part D8 -/
section
set_option maxHeartbeats 4000000
open PySem PySem.Spec PyProof.Rows L2 ClX

section
variable {P : Program} [PrOk P] {w : World} {K : PySem.W.Frag} {mg : Str → Option Value} {base : Heap}
def spNPhase : Sp := fun vs H Q _ => ∃ a b c e : Bool, vs = [.str "syn sent", .bl a, .bl b, .bl c, .bl e] ∧ RV (.str "syn sent") H Q
abbrev N_next_phase : List Str := ["phase", "opened", "finished", "answered", "theirs"]
theorem sc_next_phase : FnScope N_next_phase ["phase", "opened", "finished", "answered", "theirs"] (defScope s_next_phase) := ⟨rfl, rfl, rfl, by decide +kernel, rfl, by decide +kernel, by decide +kernel⟩
theorem fo_next_phase (W : Wld K mg) : ∃ fd, FnOk P w K mg base CX0 1 (pl_next_phase.ad K) fd ["phase", "opened", "finished", "answered", "theirs"] spNPhase ∧ FunD K "next_phase" "next_phase" (defArgs s_next_phase) (defBody s_next_phase) (defScope s_next_phase) [] [] (pl_next_phase.ad K) fd := by
  obtain ⟨fd, F⟩ := W.d_next_phase
  refine ⟨fd, F.ok sc_next_phase (fun vs H Q E h => ?_) (fun cdv A outer s H vs Q E hr h => ?_), F⟩
  · obtain ⟨a, b, c, e, rfl, q⟩ := h; rfl
  · obtain ⟨a, b, c, e, rfl, q⟩ := h
    have hu := hu_of hr
    refine ⟨_, PSs.nox (pss_cons (ps_if (PW.pt (pw_or (pt_cmpR op_eq (pv 0) pe_str (nomark _)) (pw_or1 (PW.pt (pw_and (pt_cmpR op_eq (pv 0) pe_str (nomark _)) (pw_and1 (pt_val (pv 1)))))))) pss_never pss_nil)
      (pss_cons (ps_if (pt_cmpR op_in_seq (pv 0) (pe_tup (pa_cons pe_str (pa_cons pe_str (pa_cons pe_str pa_nil)))) (by rfl)) pss_never pss_nil)
      (pss_cons (ps_if (PW.pt (pw_and (pt_cmpR op_eq (pv 0) pe_str (nomark _)) (pw_and1 (pt_val (pv 2))))) (pss_one (ps_ret (pe_ifExp (pt_val (pv 3)) pe_str pe_str))) pss_nil)
      (pss_cons (ps_if (PW.pt (pw_and (pt_cmpR op_eq (pv 0) pe_str (nomark _)) (pw_and1 (pt_val (pv 3))))) (pss_one (ps_ret pe_str)) pss_nil)
      (pss_one (ps_ret (pv 0))))))), ?_⟩
    walk_at "s"
    exact q _ (by walk_at "same")
theorem ok_next_phase_k (W : Wld K mg) : GFnK P w K mg base "next_phase" 1 ["phase", "opened", "finished", "answered", "theirs"] 1 ["opened", "finished", "answered", "theirs"] (fun vs zs => vs ++ zs) spNPhase := by
  obtain ⟨fd, F1, F⟩ := fo_next_phase (P := P) (w := w) (base := base) W
  have hb := kbAll F (ps := ["phase", "opened", "finished", "answered", "theirs"]) 1 ["opened", "finished", "answered", "theirs"] (fun kV doc pm an cdv ct us ws l1 l2 => match us, l1, ws, l2 with | [_], _, [_, _, _, _], _ => by kernel_rfl)
  exact ⟨⟨_, fd, _, F1, W.g_next_phase, F.kp, hb⟩⟩
theorem u_NPhase {a b c e : Bool} {H : Hp} {Q : VK} (q : RV (.str "syn sent") H Q) : spNPhase [.str "syn sent", .bl a, .bl b, .bl c, .bl e] H Q E0 := ⟨a, b, c, e, rfl, q⟩
local macro_rules | `(tactic| walk_at "pc") => `(tactic| (refine' PcOK.mk ?k1 ?k2 ?k3 ?k4 ?k5; (case k1 => walk_at "look"); (case k2 => walk_at "look"); (case k3 => walk_at "look"); (case k4 => assumption); (case k5 => assumption)))
local macro_rules | `(tactic| walk_at "s1") => `(tactic| first
  | (show spNPhase _ _ _ _; refine u_NPhase ?_)
  | (show spFlight _ _ _ _ _; refine' u_Flight ?k1 ?k2; (case k1 => walk_at "look"))
  | (show spHasEnded _ _ _ _ _; refine' u_HasEnded ?k1 ?k2; (case k1 => walk_at "look"))
  | (show spAllDone _ _ _ _ _; refine' u_AllDone ?k1 ?k2; (case k1 => walk_at "look"))
  | (show spEndTaken _ _ _ _ _; refine' u_EndTaken ?k1 ?k2; (case k1 => walk_at "look"))
  | (show spAllow _ _ _ _ _; refine' u_Allow ?k1 ?k2 ?k3; (case k1 => walk_at "look"); (case k2 => walk_at "look"); (case k3 => intro v9))
  | (show spNReset _ _ _ _ _; refine' u_NReset ?k1 ?k2; (case k1 => walk_at "look"))
  | (show spWait _ _ _ _ _; refine' u_Wait ?k1 ?k2 ?k3 ?k4; (case k1 => walk_at "look"); (case k2 => walk_at "look"); (case k3 => assumption))
  | (show spMark _ _ _ _ _; refine' u_Mark ?k1 ?k2 ?k3; (case k1 => walk_at "look"); (case k2 => walk_at "pc"))
  | (show spSpend _ _ _ _ _; refine' u_Spend ?k1 ?k2 ?k3; (case k2 => walk_at "look"); (case k1 => rfl))
  | ((with_reducible show RSF _ _ _ _ _ _); intro H9 e9 h9)
  | ((with_reducible show RE _ _ _ _ _ _ _); intro H9 e9 h9))
def spSettle (K : PySem.W.Frag) : Sp := fun vs H Q _ => ∃ (oa : Addr) (o : OptD) (A : EA) (d : EndD), vs = [.ref A.e, .non] ∧ d.ab = false ∧ EAt K H oa o A d ∧ SAt K H o A d ∧ RAt K H o A ∧ RE K oa o A d H Q
abbrev N_Endpoint_settle : List Str := ["self", "now", "before", "sender"]
theorem sc_Endpoint_settle : FnScope N_Endpoint_settle ["self", "now"] (defScope s_Endpoint_settle) := ⟨rfl, rfl, rfl, by decide +kernel, rfl, by decide +kernel, by decide +kernel⟩
theorem fo_Endpoint_settle (W : Wld K mg) : ∃ fd, FnOk P w K mg base CX0 5 (pl_Endpoint_settle.ad K) fd ["self", "now"] (spSettle K) ∧ FunD K "settle" "Endpoint.settle" (defArgs s_Endpoint_settle) (defBody s_Endpoint_settle) (defScope s_Endpoint_settle) [] [] (pl_Endpoint_settle.ad K) fd := by
  obtain ⟨fd, F⟩ := W.d_Endpoint_settle
  refine ⟨fd, F.ok sc_Endpoint_settle (fun vs H Q E h => ?_) (fun cdv A outer s H vs Q E hr h => ?_), F⟩
  · obtain ⟨oa, o, A', d, rfl, hb, z1, z2, z3, q⟩ := h; rfl
  · obtain ⟨oa, o, A', d, rfl, hb, z1, z2, z3, q⟩ := h
    have hu := hu_of hr
    refine ⟨_, PSs.nox (pss_cons (ps_set (i := 2) sc_Endpoint_settle.nd rfl (Or.inl rfl) (pe_get W.c_Endpoint W.n_Endpoint_phase REndpoint.l_phase (pv 0)))
      (pss_cons (ps_set (i := 3) sc_Endpoint_settle.nd rfl (Or.inl rfl) (pe_get W.c_Endpoint W.n_Endpoint_sender REndpoint.l_sender (pv 0)))
      (pss_cons (ps_put W.c_Endpoint W.n_Endpoint_phase REndpoint.p_phase REndpoint.len (pv 0) (pe_fnK (ok_next_phase_k (P := P) (K := K) W) (hr.mono (by decide)) (by rfl) (pa_cons (pv 2) pa_nil) (pk_cons (pe_cmpR op_ge (pe_get W.c_Sender W.n_Sender_una RSender.l_una (pv 3)) pe_int (nomark _)) (pk_cons (pe_get W.c_Sender W.n_Sender_finished RSender.l_finished (pv 3)) (pk_cons (pe_pr (ok_Sender_all_done (P := P) (K := K) W) (hr.mono (by decide)) (pv 3) rfl) (pk_cons (pe_pr (ok_Receiver_end_taken (P := P) (K := K) W) (hr.mono (by decide)) (pe_get W.c_Endpoint W.n_Endpoint_receiver REndpoint.l_receiver (pv 0)) rfl) pk_nil))))))
      (pss_cons (ps_if (PW.pt (pw_and (pt_cmpR op_eq (pe_get W.c_Endpoint W.n_Endpoint_phase REndpoint.l_phase (pv 0)) pe_str (nomark _)) (pw_and1 (pt_cmpR op_ne (pv 2) pe_str (nomark _))))) (pss_one (ps_put W.c_Endpoint W.n_Endpoint_cause REndpoint.p_cause REndpoint.len (pv 0) pe_str)) pss_nil)
      (pss_one (ps_if (PW.pt (pw_and (pt_cmpR op_eq (pe_get W.c_Endpoint W.n_Endpoint_phase REndpoint.l_phase (pv 0)) pe_str (nomark _)) (pw_and1 (pt_cmpR op_ne (pv 2) pe_str (nomark _))))) pss_never pss_nil)))))), ?_⟩
    obtain ⟨nx, oc, fi, ab, al, si, at9⟩ := d
    have hb : ab = false := hb
    subst hb
    walk_at "s"
    exact q _ (by walk_at "kp") (by walk_at "ins")
theorem ok_Endpoint_settle (W : Wld K mg) : MFn P w K mg base (He.ga K "Endpoint") "settle" 5 ["self", "now"] [] (spSettle K) := by
  obtain ⟨fd, F1, F⟩ := fo_Endpoint_settle (P := P) (w := w) (base := base) W
  exact ⟨⟨_, fd, [], W.c_Endpoint, W.m_Endpoint_settle, F1, F.bindsN fun _ _ _ _ _ _ us hl => match us, hl with | [_, _], _ => rfl, .nil⟩⟩
theorem u_Settle {oa : Addr} {o : OptD} {A : EA} {d : EndD} {H : Hp} {Q : VK} (hb : d.ab = false) (h : EAt K H oa o A d) (h2 : SAt K H o A d) (h3 : RAt K H o A) (q : RE K oa o A d H Q) : spSettle K [.ref A.e, .non] H Q E0 := ⟨oa, o, A, d, rfl, hb, h, h2, h3, q⟩
theorem c_and32 {i : Int} {Rq : Int → Nat → Prop} (k : Rq i 32) : ∃ (i' : Int) (k' : Nat), V.int i = .int i' ∧ V.int (4294967296 - 1) = .int (2 ^ k' - 1) ∧ Rq i' k' := ⟨i, 32, rfl, by congr 1, k⟩
theorem p32 : (2 : Int) ^ 32 = 4294967296 := by decide +kernel
theorem tup_eq {H : Hp} {a : Addr} {xs ys : List V} (h : H a = some (.tup xs)) (e : xs = ys) : H a = some (.tup ys) := e ▸ h
abbrev dS (o : OptD) (now : Int) : EndD := ⟨1, [], false, false, .int (now + o.wait), now, now⟩
def RDr (K : PySem.W.Frag) (oa : Addr) (o : OptD) (A : EA) (d : EndD) (p dx dl rl : Addr) (now : Int) (H : Hp) (Q : VK) : Prop := ∀ T H', H T = none → Kp [A.e, p] H H' → EAt K H' oa o A d → PcOK K H' p dx dl rl o.room (.ref T) → H' T = some (.tup [.int (now % 4294967296), .int 0]) → Q (.ref p) H'
def spDress (K : PySem.W.Frag) : Sp := fun vs H Q _ => ∃ (oa od : Addr) (o : OptD) (A : EA) (d : EndD) (p dx dl rl : Addr) (now : Int), vs = [.ref A.e, .ref p, .int now] ∧ d.ab = false ∧ EAt K H oa o A d ∧ OAt K H oa od o ∧ PcOK K H p dx dl rl 0 .non ∧ p ≠ A.e ∧ dl ≠ A.e ∧ rl ≠ A.e ∧ oa ≠ A.e ∧ oa ≠ p ∧ RDr K oa o A d p dx dl rl now H Q
--OVER dress {'now & CIRCLE_leaving - 1': ('(pe_op op_andM (pv 2) (pe_op op_sub (pe_gint rfl W.i_CIRCLE_leaving) pe_int))', 'int')}
local macro_rules | `(tactic| walk_at "s1") => `(tactic| first
  | (with_reducible refine c_and32 ?_))
abbrev N_dress : List Str := ["end", "piece", "now"]
theorem sc_dress : FnScope N_dress ["end", "piece", "now"] (defScope s_dress) := ⟨rfl, rfl, rfl, by decide +kernel, rfl, by decide +kernel, by decide +kernel⟩
theorem fo_dress (W : Wld K mg) : ∃ fd, FnOk P w K mg base CX0 1 (pl_dress.ad K) fd ["end", "piece", "now"] (spDress K) ∧ FunD K "dress" "dress" (defArgs s_dress) (defBody s_dress) (defScope s_dress) [] [] (pl_dress.ad K) fd := by
  obtain ⟨fd, F⟩ := W.d_dress
  refine ⟨fd, F.ok sc_dress (fun vs H Q E h => ?_) (fun cdv A outer s H vs Q E hr h => ?_), F⟩
  · obtain ⟨oa, od, o, A', d, p, dx, dl, rl, now, rfl, hb, z1, z2, ⟨z3, z4, z5, n1, n2⟩, n3, n4, n5, n6, n7, q⟩ := h; rfl
  · obtain ⟨oa, od, o, A', d, p, dx, dl, rl, now, rfl, hb, z1, z2, ⟨z3, z4, z5, n1, n2⟩, n3, n4, n5, n6, n7, q⟩ := h
    have hu := hu_of hr
    refine ⟨_, PSs.nox (pss_cons (ps_if (pt_cmpR op_eq (pe_get W.c_Endpoint W.n_Endpoint_phase REndpoint.l_phase (pv 0)) pe_str (nomark _)) (pss_one (ps_put W.c_Piece W.n_Piece_window RPiece.p_window RPiece.len (pv 1) (pe_get W.c_Options W.n_Options_room ROptions.l_room (pe_get W.c_Endpoint W.n_Endpoint_options REndpoint.l_options (pv 0))))) pss_never)
      (pss_cons (ps_if (pt_val (pe_get W.c_Endpoint W.n_Endpoint_selective REndpoint.l_selective (pv 0))) pss_never pss_nil)
      (pss_cons (ps_put W.c_Piece W.n_Piece_marked RPiece.p_marked RPiece.len (pv 1) (pe_get W.c_Endpoint W.n_Endpoint_marked REndpoint.l_marked (pv 0)))
      (pss_cons (ps_if (PW.pt (pw_and (pt_val (pe_get W.c_Endpoint W.n_Endpoint_cut REndpoint.l_cut (pv 0))) (pw_and1 (pt_cmpR op_gt (pe_callB call_len_seq (by rfl) W.f_len boot_len (pa_cons (pe_get W.c_Piece W.n_Piece_data RPiece.l_data (pv 1)) pa_nil)) pe_int (nomark _))))) pss_never pss_nil)
      (pss_cons (ps_put W.c_Piece W.n_Piece_stamp RPiece.p_stamp RPiece.len (pv 1) (pe_tup (pa_cons (pe_op op_andM (pv 2) (pe_op op_sub (pe_gint rfl W.i_CIRCLE_leaving) pe_int)) (pa_cons (pe_get W.c_Endpoint W.n_Endpoint_stamp REndpoint.l_stamp (pv 0)) pa_nil))))
      (pss_cons (ps_put W.c_Endpoint W.n_Endpoint_ack_at REndpoint.p_ack_at REndpoint.len (pv 0) pe_non)
      (pss_cons (ps_put W.c_Endpoint W.n_Endpoint_late REndpoint.p_late REndpoint.len (pv 0) pe_int)
      (pss_one (ps_ret (pv 1)))))))))), ?_⟩
    obtain ⟨nx, oc, fi, ab, al, si, at9⟩ := d
    have hb : ab = false := hb
    subst hb
    walk_at "s"
    rename_i T fT
    exact q T _ (by walk_at "fresh") (by walk_at "kp") (by walk_at "ins") ⟨by walk_at "ins", by walk_at "look", by walk_at "look", n1, n2⟩ (tup_eq (ys := [.int (now % 4294967296), .int 0]) (xs := [.int (now % 2 ^ 32), .int 0]) (by walk_at "look") (congrArg (fun z => [V.int (now % z), V.int 0]) p32))
theorem ok_dress (W : Wld K mg) : GFn P w K mg base "dress" 1 ["end", "piece", "now"] (spDress K) := by
  obtain ⟨fd, F1, F⟩ := fo_dress (P := P) (w := w) (base := base) W
  exact ⟨⟨_, fd, F1, W.g_dress, F.kp, F.bindsN fun _ _ _ _ _ _ us hl => match us, hl with | [_, _, _], _ => rfl⟩⟩
theorem u_Dress {oa od : Addr} {o : OptD} {A : EA} {d : EndD} {p dx dl rl : Addr} {now : Int} {H : Hp} {Q : VK} (hb : d.ab = false) (h : EAt K H oa o A d) (h2 : OAt K H oa od o) (h3 : PcOK K H p dx dl rl 0 .non) (n3 : p ≠ A.e) (n4 : dl ≠ A.e) (n5 : rl ≠ A.e) (n6 : oa ≠ A.e) (n7 : oa ≠ p)
    (q : RDr K oa o A d p dx dl rl now H Q) : spDress K [.ref A.e, .ref p, .int now] H Q E0 := ⟨oa, od, o, A, d, p, dx, dl, rl, now, rfl, hb, h, h2, h3, n3, n4, n5, n6, n7, q⟩
local macro_rules | `(tactic| walk_at "s1") => `(tactic| first
  | (show spDress _ _ _ _ _; refine' u_Dress ?k0 ?k1 ?k2 ?k3 ?k4 ?k5 ?k6 ?k7 ?k8 ?k9; (case k1 => walk_at "look"); (case k2 => walk_at "look"); (case k3 => walk_at "pc"); (case k0 => rfl); (case k4 => walk_at "ne"); (case k5 => walk_at "ne"); (case k6 => walk_at "ne"); (case k7 => walk_at "ne"); (case k8 => walk_at "ne"))
  | ((with_reducible show RDr _ _ _ _ _ _ _ _ _ _ _ _); intro T9 H9 f9 e9 h9 p9 t9))
def RSnd (K : PySem.W.Frag) (oa : Addr) (o : OptD) (A : EA) (p dx dl rl : Addr) (now : Int) (H : Hp) (Q : VK) : Prop := ∀ T H', H T = none → Kp [A.e, A.s, p] H H' → EAt K H' oa o A (dS o now) → SAt K H' o A (dS o now) → PcOK K H' p dx dl rl o.room (.ref T) → H' T = some (.tup [.int (now % 4294967296), .int 0]) → Q (.ref p) H'
def spSend (K : PySem.W.Frag) : Sp := fun vs H Q _ => ∃ (oa od : Addr) (o : OptD) (A : EA) (p dx dl rl : Addr) (now : Int), vs = [.ref A.e, .ref p, .int now] ∧ EAt K H oa o A (fr0 now) ∧ SAt K H o A (fr0 now) ∧ TAt K H o A ∧ A.Ap ∧ OAt K H oa od o ∧ PcOK K H p dx dl rl 0 .non ∧ p ≠ A.e ∧ dl ≠ A.e ∧ rl ≠ A.e ∧ oa ≠ A.e ∧ oa ≠ p ∧ p ≠ A.s ∧ dl ≠ A.s ∧ rl ≠ A.s ∧ oa ≠ A.s ∧ RSnd K oa o A p dx dl rl now H Q
abbrev N_send : List Str := ["end", "piece", "now"]
theorem sc_send : FnScope N_send ["end", "piece", "now"] (defScope s_send) := ⟨rfl, rfl, rfl, by decide +kernel, rfl, by decide +kernel, by decide +kernel⟩
theorem fo_send (W : Wld K mg) : ∃ fd, FnOk P w K mg base CX0 5 (pl_send.ad K) fd ["end", "piece", "now"] (spSend K) ∧ FunD K "send" "send" (defArgs s_send) (defBody s_send) (defScope s_send) [] [] (pl_send.ad K) fd := by
  obtain ⟨fd, F⟩ := W.d_send
  refine ⟨fd, F.ok sc_send (fun vs H Q E h => ?_) (fun cdv A outer s H vs Q E hr h => ?_), F⟩
  · obtain ⟨oa, od, o, A', p, dx, dl, rl, now, rfl, z1, z2, z6, ⟨a1, a2, a3, a4, a5, a6, a7, a8, b1, b2, b3, b4, b5, b6, b7⟩, z7, ⟨z3, z4, z5, n1, n2⟩, n3, n4, n5, n6, n7, m3, m4, m5, m6, q⟩ := h; rfl
  · obtain ⟨oa, od, o, A', p, dx, dl, rl, now, rfl, z1, z2, z6, ⟨a1, a2, a3, a4, a5, a6, a7, a8, b1, b2, b3, b4, b5, b6, b7⟩, z7, ⟨z3, z4, z5, n1, n2⟩, n3, n4, n5, n6, n7, m3, m4, m5, m6, q⟩ := h
    have hu := hu_of hr
    refine ⟨_, PSs.nox (pss_cons (ps_if (pt_cmpR op_eq (pe_pr (ok_Sender_flight (P := P) (K := K) W) (hr.mono (by decide)) (pe_get W.c_Endpoint W.n_Endpoint_sender REndpoint.l_sender (pv 0)) rfl) pe_int (nomark _)) (pss_one (ps_expr (pe_mt (ok_Endpoint_wait (P := P) (K := K) W) (hr.mono (by decide)) (pv 0) (pa_cons (pv 2) pa_nil)))) pss_nil)
      (pss_cons (ps_expr (pe_mt (ok_Sender_mark_sent (P := P) (K := K) W) (hr.mono (by decide)) (pe_get W.c_Endpoint W.n_Endpoint_sender REndpoint.l_sender (pv 0)) (pa_cons (pv 1) pa_nil)))
      (pss_one (ps_ret (pe_fn (ok_dress (P := P) (K := K) W) (hr.mono (by decide)) (by rfl) (pa_cons (pv 0) (pa_cons (pv 1) (pa_cons (pv 2) pa_nil)))))))), ?_⟩
    walk_at "s"
    rename_i H1 e1 h1 H2 e2 h2 T H3 fT e3 h3 p3 hT
    exact q T _ (by walk_at "fresh") (by walk_at "kp") h3 (by walk_at "look") p3 hT
theorem ok_send (W : Wld K mg) : GFn P w K mg base "send" 5 ["end", "piece", "now"] (spSend K) := by
  obtain ⟨fd, F1, F⟩ := fo_send (P := P) (w := w) (base := base) W
  exact ⟨⟨_, fd, F1, W.g_send, F.kp, F.bindsN fun _ _ _ _ _ _ us hl => match us, hl with | [_, _, _], _ => rfl⟩⟩
theorem u_Send {oa od : Addr} {o : OptD} {A : EA} {p dx dl rl : Addr} {now : Int} {H : Hp} {Q : VK} (h : EAt K H oa o A (fr0 now)) (h1 : SAt K H o A (fr0 now)) (h6 : TAt K H o A) (ap : A.Ap) (h2 : OAt K H oa od o) (h3 : PcOK K H p dx dl rl 0 .non) (n3 : p ≠ A.e) (n4 : dl ≠ A.e) (n5 : rl ≠ A.e) (n6 : oa ≠ A.e) (n7 : oa ≠ p) (m3 : p ≠ A.s) (m4 : dl ≠ A.s) (m5 : rl ≠ A.s) (m6 : oa ≠ A.s)
    (q : RSnd K oa o A p dx dl rl now H Q) : spSend K [.ref A.e, .ref p, .int now] H Q E0 := ⟨oa, od, o, A, p, dx, dl, rl, now, rfl, h, h1, h6, ap, h2, h3, n3, n4, n5, n6, n7, m3, m4, m5, m6, q⟩
end
end
/-! part D9 -/
section
set_option maxHeartbeats 4000000
open PySem PySem.Spec PyProof.Rows L2 ClX

section
variable {P : Program} [PrOk P] {w : World} {K : PySem.W.Frag} {mg : Str → Option Value} {base : Heap}
abbrev CAt (K : PySem.W.Frag) (H : Hp) (o : OptD) (A : EA) : Prop := H A.c = some (ctlO K o.cubic A.cd o.mss)
local macro_rules | `(tactic| walk_at "pc") => `(tactic| (refine' PcOK.mk ?k1 ?k2 ?k3 ?k4 ?k5; (case k1 => walk_at "look"); (case k2 => walk_at "look"); (case k3 => walk_at "look"); (case k4 => assumption); (case k5 => assumption)))
local macro_rules | `(tactic| walk_at "s1") => `(tactic| first
  | (with_reducible refine c_fld ?_)
  | (show spFlight _ _ _ _ _; refine' u_Flight ?k1 ?k2; (case k1 => walk_at "look"))
  | (show spHasEnded _ _ _ _ _; refine' u_HasEnded ?k1 ?k2; (case k1 => walk_at "look"))
  | (show spAllow _ _ _ _ _; refine' u_Allow ?k1 ?k2 ?k3; (case k1 => walk_at "look"); (case k2 => walk_at "look"); intro v9)
  | (show spNReset _ _ _ _ _; refine' u_NReset ?k1 ?k2; (case k1 => walk_at "look"))
  | (show spIsDue _ _ _ _; refine Exists.intro _ (And.intro rfl ?_))
  | (show spNextP _ _ _ _ _; refine' u_NextP1 ?k1 ?k2 ?k3 ?k4 ?k5; (case k4 => assumption); (case k1 => walk_at "look"); (case k2 => walk_at "look"); (case k3 => walk_at "look"))
  | (show spSpend _ _ _ _ _; refine' u_Spend ?k1 ?k2 ?k3; (case k2 => walk_at "look"); (case k1 => rfl))
  | ((with_reducible show RSF _ _ _ _ _ _); intro H9 e9 h9)
  | ((with_reducible show RPc _ _ _); intro p9 x9 d9 r9 H9 fp9 fd9 fr9 e9 pc9; obtain ⟨g1, g2, g3, g4, g5⟩ := pc9)
  | ((with_reducible show RSnd _ _ _ _ _ _ _ _ _ _ _); intro T9 H9 f9 e9 h9 s9 p9 t9)
  | ((with_reducible show RE _ _ _ _ _ _ _); intro H9 e9 h9))
/-- the control's window -/
theorem ctl_cwnd (W : Wld K mg) {H : Hp} {o : OptD} {A : EA} {Rq : V → Prop} (h : CAt K H o A) (k : Rq (.int (10 * o.mss))) :
    ∃ a' C' dx' fs' v', V.ref A.c = .ref a' ∧ H a' = some (.ins C' dx' fs') ∧ Cls K C' ∧ NoAttr K C' "cwnd" ∧ fs'.lookup ("cwnd" : Str) = some v' ∧ Rq v' := by
  unfold CAt ctlO at h
  split at h
  · exact c_fldl h W.c_Cubic W.n_Cubic_cwnd (RCubic.l_cwnd _) k
  · exact c_fldl h W.c_Reno W.n_Reno_cwnd (RReno.l_cwnd _) k
def RNx (K : PySem.W.Frag) (oa : Addr) (o : OptD) (A : EA) (now : Int) (H : Hp) (Q : VK) : Prop := ∀ p dx dl rl T H', H p = none → H dl = none → H rl = none → H T = none → Kp [A.e, A.s] H H' → EAt K H' oa o A (dS o now) → SAt K H' o A (dS o now) → PcOK K H' p dx dl rl o.room (.ref T) → H' T = some (.tup [.int (now % 4294967296), .int 0]) → Q (.ref p) H'
def spNOut (K : PySem.W.Frag) : Sp := fun vs H Q _ => ∃ (oa od : Addr) (o : OptD) (A : EA) (d : EndD) (now : Int), vs = [.ref A.e, .int now] ∧ EAt K H oa o A d ∧ SAt K H o A d ∧ CAt K H o A ∧ OAt K H oa od o ∧ H A.q = some (.lst (nis d.octs)) ∧ H A.k = some (.lst []) ∧
  (((d.ab = true ∨ d.nxt = 1) ∧ Q .non H) ∨ (d = fr0 now ∧ TAt K H o A ∧ A.Ap ∧ oa ≠ A.e ∧ oa ≠ A.s ∧ RNx K oa o A now H Q))
abbrev N_next_output : List Str := ["end", "now", "sender", "piece"]
theorem sc_next_output : FnScope N_next_output ["end", "now"] (defScope s_next_output) := ⟨rfl, rfl, rfl, by decide +kernel, rfl, by decide +kernel, by decide +kernel⟩
theorem fo_next_output (W : Wld K mg) : ∃ fd, FnOk P w K mg base CX0 8 (pl_next_output.ad K) fd ["end", "now"] (spNOut K) ∧ FunD K "next_output" "next_output" (defArgs s_next_output) (defBody s_next_output) (defScope s_next_output) [] [] (pl_next_output.ad K) fd := by
  obtain ⟨fd, F⟩ := W.d_next_output
  refine ⟨fd, F.ok sc_next_output (fun vs H Q E h => ?_) (fun cdv A outer s H vs Q E hr h => ?_), F⟩
  · obtain ⟨oa, od, o, A', d, now, rfl, z1, z2, z3, z4, z5, z6, hq⟩ := h; rfl
  · obtain ⟨oa, od, o, A', d, now, rfl, z1, z2, z3, z4, z5, z6, hq⟩ := h
    have hu := hu_of hr
    refine ⟨_, PSs.nox (pss_cons (ps_set (i := 2) sc_next_output.nd rfl (Or.inl rfl) (pe_get W.c_Endpoint W.n_Endpoint_sender REndpoint.l_sender (pv 0)))
      (pss_cons (ps_if (pt_val (pe_pr (ok_Endpoint_has_ended (P := P) (K := K) W) (hr.mono (by decide)) (pv 0) rfl)) (pss_one (ps_ret (pe_fn (ok_next_reset (P := P) (K := K) W) (hr.mono (by decide)) (by rfl) (pa_cons (pv 0) pa_nil)))) pss_nil)
      (pss_cons (ps_if (PW.pt (pw_and (pt_val (pe_get W.c_Endpoint W.n_Endpoint_again REndpoint.l_again (pv 0))) (pw_and1 (pt_cmpR op_gt (pe_pr (ok_Sender_flight (P := P) (K := K) W) (hr.mono (by decide)) (pv 2) rfl) pe_int (nomark _))))) pss_never pss_nil)
      (pss_cons (ps_if (pt_val (pe_get W.c_Endpoint W.n_Endpoint_asked REndpoint.l_asked (pv 0))) pss_never pss_nil)
      (pss_cons (ps_set (i := 3) sc_next_output.nd rfl (Or.inl rfl) (pe_mtK0 (ok_Sender_next_piece_k (P := P) (K := K) W) (hr.mono (by decide)) (pv 2) (pk_cons (pe_fld (pe_get W.c_Endpoint W.n_Endpoint_control REndpoint.l_control (pv 0)) rfl) (pk_cons (pe_get W.c_Endpoint W.n_Endpoint_mss REndpoint.l_mss (pv 0)) (pk_cons (pe_fn (ok_allowance (P := P) (K := K) W) (hr.mono (by decide)) (by rfl) (pa_cons (pv 0) (pa_cons (pv 1) pa_nil))) (pk_cons (pe_get W.c_Options W.n_Options_nagle ROptions.l_nagle (pe_get W.c_Endpoint W.n_Endpoint_options REndpoint.l_options (pv 0))) pk_nil))))))
      (pss_cons (ps_if (pt_cmpR op_notN (pv 3) pe_non (nomark _)) (pss_cons (ps_if (pt_cmpR op_ge (pe_get W.c_Piece W.n_Piece_start RPiece.l_start (pv 3)) (pe_get W.c_Sender W.n_Sender_nxt RSender.l_nxt (pv 2)) (nomark _)) (pss_one (ps_expr (pe_fn (ok_spend (P := P) (K := K) W) (hr.mono (by decide)) (by rfl) (pa_cons (pv 0) (pa_cons (pe_callB call_len_seq (by rfl) W.f_len boot_len (pa_cons (pe_get W.c_Piece W.n_Piece_data RPiece.l_data (pv 3)) pa_nil)) (pa_cons (pv 1) pa_nil)))))) pss_nil)
      (pss_one (ps_ret (pe_fn (ok_send (P := P) (K := K) W) (hr.mono (by decide)) (by rfl) (pa_cons (pv 0) (pa_cons (pv 3) (pa_cons (pv 1) pa_nil))))))) pss_nil)
      (pss_cons (ps_if (pt_val (pe_get W.c_Endpoint W.n_Endpoint_probe REndpoint.l_probe (pv 0))) pss_never pss_nil)
      (pss_cons (ps_if (pt_val (pe_fn (ok_is_due (P := P) (K := K) W) (hr.mono (by decide)) (by rfl) (pa_cons (pe_get W.c_Endpoint W.n_Endpoint_ack_at REndpoint.l_ack_at (pv 0)) (pa_cons (pv 1) pa_nil)))) pss_never pss_nil)
      (pss_one (ps_ret pe_non)))))))))), ?_⟩
    rcases hq with ⟨hn, q⟩ | ⟨rfl, z7, ap, no1, no2, q⟩
    · cases hb : d.ab
      · have hn : d.nxt = 1 := by rcases hn with hn | hn; (rw [hb] at hn; cases hn); exact hn
        walk_at "s"
        refine br_f hb ?_
        walk_at "s"
        refine ctl_cwnd W z3 ?_
        walk_at "s"
        exact q
      · walk_at "s"
        refine br_t hb ?_
        walk_at "s"
        exact q
    · have z5 : H A'.q = some (.lst []) := z5
      have ap2 := ap
      obtain ⟨a1, a2, a3, a4, a5, a6, a7, a8, b1, b2, b3, b4, b5, b6, b7⟩ := ap2
      walk_at "s"
      refine ctl_cwnd W z3 ?_
      walk_at "s"
      refine u_NextP0 z2 z6 z5 ?_
      walk_at "s"
      refine u_Send (by walk_at "look") (by walk_at "look") (by walk_at "look") ap (by walk_at "look") (by walk_at "pc") (by walk_at "ne") (by walk_at "ne") (by walk_at "ne") no1 (by walk_at "ne") (by walk_at "ne") (by walk_at "ne") (by walk_at "ne") no2 ?_
      walk_at "s"
      rename_i v p dx dl rl H1 fp fdl frl e1 g1 g2 g3 g4 g5 H2 e2 h2 T H3 fT e3 h3 s3 p3 t3
      exact q p dx dl rl T H3 fp fdl frl (by walk_at "fresh") (by walk_at "kp") h3 s3 p3 t3
theorem ok_next_output (W : Wld K mg) : GFn P w K mg base "next_output" 8 ["end", "now"] (spNOut K) := by
  obtain ⟨fd, F1, F⟩ := fo_next_output (P := P) (w := w) (base := base) W
  exact ⟨⟨_, fd, F1, W.g_next_output, F.kp, F.bindsN fun _ _ _ _ _ _ us hl => match us, hl with | [_, _], _ => rfl⟩⟩
theorem u_NOut1 {oa od : Addr} {o : OptD} {A : EA} {d : EndD} {now : Int} {H : Hp} {Q : VK} (h1 : EAt K H oa o A d) (h2 : SAt K H o A d) (h3 : CAt K H o A) (h4 : OAt K H oa od o) (h5 : H A.q = some (.lst (nis d.octs))) (h6 : H A.k = some (.lst [])) (hn : d.ab = true ∨ d.nxt = 1) (q : Q .non H) : spNOut K [.ref A.e, .int now] H Q E0 := ⟨oa, od, o, A, d, now, rfl, h1, h2, h3, h4, h5, h6, .inl ⟨hn, q⟩⟩
theorem u_NOut0 {oa od : Addr} {o : OptD} {A : EA} {now : Int} {H : Hp} {Q : VK} (h1 : EAt K H oa o A (fr0 now)) (h2 : SAt K H o A (fr0 now)) (h3 : CAt K H o A) (h4 : OAt K H oa od o) (h5 : H A.q = some (.lst [])) (h6 : H A.k = some (.lst [])) (h7 : TAt K H o A) (ap : A.Ap) (n1 : oa ≠ A.e) (n2 : oa ≠ A.s) (q : RNx K oa o A now H Q) : spNOut K [.ref A.e, .int now] H Q E0 := ⟨oa, od, o, A, fr0 now, now, rfl, h1, h2, h3, h4, h5, h6, .inr ⟨rfl, h7, ap, n1, n2, q⟩⟩
/-- what output hands back -/
def ROut (K : PySem.W.Frag) (oa : Addr) (o : OptD) (A : EA) (now : Int) (H : Hp) (Q : VK) : Prop := ∀ pl p dx dl rl T H', H pl = none → H p = none → H dl = none → H rl = none → H T = none → Kp [A.e, A.s] H H' → EAt K H' oa o A (dS o now) → SAt K H' o A (dS o now) → PcOK K H' p dx dl rl o.room (.ref T) → H' T = some (.tup [.int (now % 4294967296), .int 0]) → H' pl = some (.lst [.ref p]) → Q (.ref pl) H'
def spOut (K : PySem.W.Frag) : Sp := fun vs H Q _ => ∃ (oa od : Addr) (o : OptD) (A : EA) (d : EndD) (now z : Int), vs = [.ref A.e, .int now] ∧ EAt K H oa o A d ∧ SAt K H o A d ∧ CAt K H o A ∧ OAt K H oa od o ∧ H A.q = some (.lst (nis d.octs)) ∧ H A.k = some (.lst []) ∧
  (((d.ab = true ∨ d.nxt = 1) ∧ d.alarm = .int z ∧ RL [] H Q) ∨ (d = fr0 now ∧ TAt K H o A ∧ A.Ap ∧ oa ≠ A.e ∧ oa ≠ A.s ∧ ROut K oa o A now H Q))
local macro_rules | `(tactic| walk_at "s1") => `(tactic| first
  | (show spWind _ _ _ _ _; refine' u_Wind ?k1 ?k2 ?k3 ?k4 ?k5; (case k1 => walk_at "look"); (case k2 => walk_at "look"); (case k3 => first | assumption | exact Or.inr rfl); (case k4 => first | assumption | rfl)))
abbrev N_Endpoint_output : List Str := ["self", "now", "pieces", "_", "piece"]
theorem sc_Endpoint_output : FnScope N_Endpoint_output ["self", "now"] (defScope s_Endpoint_output) := ⟨rfl, rfl, rfl, by decide +kernel, rfl, by decide +kernel, by decide +kernel⟩
theorem fo_Endpoint_output (W : Wld K mg) : ∃ fd, FnOk P w K mg base CX0 10 (pl_Endpoint_output.ad K) fd ["self", "now"] (spOut K) ∧ FunD K "output" "Endpoint.output" (defArgs s_Endpoint_output) (defBody s_Endpoint_output) (defScope s_Endpoint_output) [] [] (pl_Endpoint_output.ad K) fd := by
  obtain ⟨fd, F⟩ := W.d_Endpoint_output
  refine ⟨fd, F.ok sc_Endpoint_output (fun vs H Q E h => ?_) (fun cdv A outer s H vs Q E hr h => ?_), F⟩
  · obtain ⟨oa, od, o, A', d, now, z, rfl, z1, z2, z3, z4, z5, z6, hq⟩ := h; rfl
  · obtain ⟨oa, od, o, A', d, now, z, rfl, z1, z2, z3, z4, z5, z6, hq⟩ := h
    have hu := hu_of hr
    refine ⟨_, PSs.nox (pss_cons (ps_set (i := 2) sc_Endpoint_output.nd rfl (Or.inl rfl) (pe_lst pa_nil))
      (pss_cons (ps_for PassesOwn.never rfl (pi_range1 rfl W.f_range (pa_cons (pe_ccon rfl W.g_Endpoint W.r_Endpoint W.k_Endpoint_MOST_AT_ONCE) pa_nil)) (pg_name (i := 3) sc_Endpoint_output.nd rfl (Or.inl rfl)) (pss_cons (ps_set (i := 4) sc_Endpoint_output.nd rfl (Or.inl rfl) (pe_fn (ok_next_output (P := P) (K := K) W) (hr.mono (by decide)) (by rfl) (pa_cons (pv 0) (pa_cons (pv 1) pa_nil))))
      (pss_cons (ps_if (pt_cmpR op_isN (pv 4) pe_non (nomark _)) (pss_one ps_break) pss_nil)
      (pss_one (ps_expr (pe_bm PySem.F.plainAttrs_list PySem.F.slot_list_append PySem.F.type_list_append mt_append (pv 2) (pa_cons (pv 4) pa_nil)))))))
      (pss_cons (ps_expr (pe_mt (ok_Endpoint_wind (P := P) (K := K) W) (hr.mono (by decide)) (pv 0) (pa_cons (pv 1) pa_nil)))
      (pss_one (ps_ret (pv 2)))))), ?_⟩
    rcases hq with ⟨hn, ha, q⟩ | ⟨rfl, z7, ap, no1, no2, q⟩
    · walk_at "s"
      rename_i pl fpl
      refine c_loopR (n := 64) (by rfl) (fun i σ H' => i = 0 ∧ H' = upd H pl (.lst []) ∧ σ = [some (.ref A'.e), some (.int now), some (.ref pl), none, none]) ?_ ?_ ?_
      · exact ⟨rfl, rfl, rfl⟩
      · rintro i σ H' hi ⟨rfl, rfl, rfl⟩
        walk_at "s"
        refine u_NOut1 (by walk_at "look") (by walk_at "look") (by walk_at "look") (by walk_at "look") (by walk_at "look") (by walk_at "look") hn ?_
        walk_at "s"
        rename_i H2 e2
        exact q pl _ fpl (by walk_at "same") (by walk_at "look")
      · rintro σ H' ⟨h, _⟩
        cases h
    · have z5 : H A'.q = some (.lst []) := z5
      have ap2 := ap
      obtain ⟨a1, a2, a3, a4, a5, a6, a7, a8, b1, b2, b3, b4, b5, b6, b7⟩ := ap2
      walk_at "s"
      rename_i pl fpl
      refine c_loopR (n := 64) (by rfl) (fun i σ H' => (i = 0 ∧ H' = upd H pl (.lst []) ∧ σ = [some (.ref A'.e), some (.int now), some (.ref pl), none, none]) ∨ (i = 1 ∧ ∃ p dx dl rl T v v2, σ = [some (.ref A'.e), some (.int now), some (.ref pl), v, v2] ∧ H p = none ∧ H dl = none ∧ H rl = none ∧ H T = none ∧
        Kp [A'.e, A'.s] H H' ∧ EAt K H' oa o A' (dS o now) ∧ SAt K H' o A' (dS o now) ∧ PcOK K H' p dx dl rl o.room (.ref T) ∧ H' T = some (.tup [.int (now % 4294967296), .int 0]) ∧ H' pl = some (.lst [.ref p]))) ?_ ?_ ?_
      · exact .inl ⟨rfl, rfl, rfl⟩
      · rintro i σ H' hi (⟨rfl, rfl, rfl⟩ | ⟨rfl, p, dx, dl, rl, T, v, v2, rfl, fp, fdl, frl, fT, e, h, s3, p3, t3, hl⟩)
        · walk_at "s"
          refine u_NOut0 (by walk_at "look") (by walk_at "look") (by walk_at "look") (by walk_at "look") (by walk_at "look") (by walk_at "look") (by walk_at "look") ap no1 no2 ?_
          intro p dx dl rl T H2 fp fdl frl fT e h s3 p3 t3
          obtain ⟨g1, g2, g3, g4, g5⟩ := p3
          walk_at "s"
          refine .inr ⟨rfl, p, dx, dl, rl, T, _, _, rfl, by walk_at "fresh", by walk_at "fresh", by walk_at "fresh", by walk_at "fresh", by walk_at "kp", by walk_at "look", by walk_at "look", ⟨by walk_at "look", by walk_at "look", by walk_at "look", g4, g5⟩, by walk_at "look", by walk_at "rl"⟩
        · walk_at "s"
          refine u_NOut1 h s3 (by walk_at "look") (by walk_at "look") (by walk_at "look") (by walk_at "look") (.inr rfl) ?_
          walk_at "s"
          rename_i H2 e2
          obtain ⟨g1, g2, g3, g4, g5⟩ := p3
          exact q pl p dx dl rl T H2 fpl fp fdl frl fT (by walk_at "kp") (by walk_at "look") (by walk_at "look") ⟨by walk_at "look", by walk_at "look", by walk_at "look", g4, g5⟩ (by walk_at "look") (by walk_at "look")
      · rintro σ H' (⟨h, _⟩ | ⟨h, _⟩) <;> cases h
theorem ok_Endpoint_output (W : Wld K mg) : MFn P w K mg base (He.ga K "Endpoint") "output" 10 ["self", "now"] [] (spOut K) := by
  obtain ⟨fd, F1, F⟩ := fo_Endpoint_output (P := P) (w := w) (base := base) W
  exact ⟨⟨_, fd, [], W.c_Endpoint, W.m_Endpoint_output, F1, F.bindsN fun _ _ _ _ _ _ us hl => match us, hl with | [_, _], _ => rfl, .nil⟩⟩
theorem u_Out1 {oa od : Addr} {o : OptD} {A : EA} {d : EndD} {now z : Int} {H : Hp} {Q : VK} (h1 : EAt K H oa o A d) (h2 : SAt K H o A d) (h3 : CAt K H o A) (h4 : OAt K H oa od o) (h5 : H A.q = some (.lst (nis d.octs))) (h6 : H A.k = some (.lst [])) (hn : d.ab = true ∨ d.nxt = 1) (ha : d.alarm = .int z) (q : RL [] H Q) : spOut K [.ref A.e, .int now] H Q E0 := ⟨oa, od, o, A, d, now, z, rfl, h1, h2, h3, h4, h5, h6, .inl ⟨hn, ha, q⟩⟩
theorem u_Out0 {oa od : Addr} {o : OptD} {A : EA} {now : Int} {H : Hp} {Q : VK} (h1 : EAt K H oa o A (fr0 now)) (h2 : SAt K H o A (fr0 now)) (h3 : CAt K H o A) (h4 : OAt K H oa od o) (h5 : H A.q = some (.lst [])) (h6 : H A.k = some (.lst [])) (h7 : TAt K H o A) (ap : A.Ap) (n1 : oa ≠ A.e) (n2 : oa ≠ A.s) (q : ROut K oa o A now H Q) : spOut K [.ref A.e, .int now] H Q E0 := ⟨oa, od, o, A, fr0 now, now, 0, rfl, h1, h2, h3, h4, h5, h6, .inr ⟨rfl, h7, ap, n1, n2, q⟩⟩
/-- write, of an endpoint that has not ended -/
def spEWrite (K : PySem.W.Frag) : Sp := fun vs H Q _ => ∃ (oa : Addr) (o : OptD) (A : EA) (d : EndD) (a : Addr) (ns : List Int), vs = [.ref A.e, .ref a] ∧ d.ab = false ∧ EAt K H oa o A d ∧ SAt K H o A d ∧ H A.q = some (.lst (nis d.octs)) ∧ A.q ≠ A.s ∧ H a = some (.lst (nis ns)) ∧ d.octs.length ≤ 1000 ∧ ns.length ≤ 1000 ∧ RSW K o A d ns H Q
abbrev N_Endpoint_write : List Str := ["self", "octets"]
theorem sc_Endpoint_write : FnScope N_Endpoint_write ["self", "octets"] (defScope s_Endpoint_write) := ⟨rfl, rfl, rfl, by decide +kernel, rfl, by decide +kernel, by decide +kernel⟩
theorem fo_Endpoint_write (W : Wld K mg) : ∃ fd, FnOk P w K mg base CX0 4 (pl_Endpoint_write.ad K) fd ["self", "octets"] (spEWrite K) ∧ FunD K "write" "Endpoint.write" (defArgs s_Endpoint_write) (defBody s_Endpoint_write) (defScope s_Endpoint_write) [] [] (pl_Endpoint_write.ad K) fd := by
  obtain ⟨fd, F⟩ := W.d_Endpoint_write
  refine ⟨fd, F.ok sc_Endpoint_write (fun vs H Q E h => ?_) (fun cdv A outer s H vs Q E hr h => ?_), F⟩
  · obtain ⟨oa, o, A', d, a, ns, rfl, hb, z0, z1, z2, n0, z3, l1, l2, q⟩ := h; rfl
  · obtain ⟨oa, o, A', d, a, ns, rfl, hb, z0, z1, z2, n0, z3, l1, l2, q⟩ := h
    have hu := hu_of hr
    refine ⟨_, PSs.nox (pss_cons (ps_if (pt_val (pe_pr (ok_Endpoint_has_ended (P := P) (K := K) W) (hr.mono (by decide)) (pv 0) rfl)) (pss_one (ps_ret pe_int)) pss_nil)
      (pss_one (ps_ret (pe_mt (ok_Sender_write (P := P) (K := K) W) (hr.mono (by decide)) (pe_get W.c_Endpoint W.n_Endpoint_sender REndpoint.l_sender (pv 0)) (pa_cons (pv 1) pa_nil))))), ?_⟩
    walk_at "s"
    refine br_f hb ?_
    walk_at "s"
    refine u_SWrite z1 z2 n0 z3 l1 l2 ?_
    exact q
theorem ok_Endpoint_write (W : Wld K mg) : MFn P w K mg base (He.ga K "Endpoint") "write" 4 ["self", "octets"] [] (spEWrite K) := by
  obtain ⟨fd, F1, F⟩ := fo_Endpoint_write (P := P) (w := w) (base := base) W
  exact ⟨⟨_, fd, [], W.c_Endpoint, W.m_Endpoint_write, F1, F.bindsN fun _ _ _ _ _ _ us hl => match us, hl with | [_, _], _ => rfl, .nil⟩⟩
theorem u_EWrite {oa : Addr} {o : OptD} {A : EA} {d : EndD} {a : Addr} {ns : List Int} {H : Hp} {Q : VK} (hb : d.ab = false) (h0 : EAt K H oa o A d) (h : SAt K H o A d) (h2 : H A.q = some (.lst (nis d.octs))) (n : A.q ≠ A.s) (h3 : H a = some (.lst (nis ns))) (l1 : d.octs.length ≤ 1000) (l2 : ns.length ≤ 1000) (q : RSW K o A d ns H Q) : spEWrite K [.ref A.e, .ref a] H Q E0 := ⟨oa, o, A, d, a, ns, rfl, hb, h0, h, h2, n, h3, l1, l2, q⟩
def RES (K : PySem.W.Frag) (oa : Addr) (o : OptD) (A : EA) (d : EndD) (H : Hp) (Q : VK) : Prop := ∀ H', Kp [A.e, A.s] H H' → EAt K H' oa o A d → SAt K H' o A d → Q .non H'
def spEFinish (K : PySem.W.Frag) : Sp := fun vs H Q _ => ∃ (oa : Addr) (o : OptD) (A : EA) (d : EndD), vs = [.ref A.e] ∧ d.ab = false ∧ d.fin = false ∧ EAt K H oa o A d ∧ SAt K H o A d ∧ RAt K H o A ∧ A.r ≠ A.s ∧ A.s ≠ A.e ∧ RES K oa o A { d with fin := true } H Q
abbrev N_Endpoint_finish : List Str := ["self"]
theorem sc_Endpoint_finish : FnScope N_Endpoint_finish ["self"] (defScope s_Endpoint_finish) := ⟨rfl, rfl, rfl, by decide +kernel, rfl, by decide +kernel, by decide +kernel⟩
theorem fo_Endpoint_finish (W : Wld K mg) : ∃ fd, FnOk P w K mg base CX0 7 (pl_Endpoint_finish.ad K) fd ["self"] (spEFinish K) ∧ FunD K "finish" "Endpoint.finish" (defArgs s_Endpoint_finish) (defBody s_Endpoint_finish) (defScope s_Endpoint_finish) [] [] (pl_Endpoint_finish.ad K) fd := by
  obtain ⟨fd, F⟩ := W.d_Endpoint_finish
  refine ⟨fd, F.ok sc_Endpoint_finish (fun vs H Q E h => ?_) (fun cdv A outer s H vs Q E hr h => ?_), F⟩
  · obtain ⟨oa, o, A', d, rfl, hb, hf, z0, z1, z2, n0, n1, q⟩ := h; rfl
  · obtain ⟨oa, o, A', d, rfl, hb, hf, z0, z1, z2, n0, n1, q⟩ := h
    have hu := hu_of hr
    refine ⟨_, PSs.nox (pss_cons (ps_if (PW.pt (pw_or (pt_val (pe_pr (ok_Endpoint_has_ended (P := P) (K := K) W) (hr.mono (by decide)) (pv 0) rfl)) (pw_or1 (pt_val (pe_get W.c_Sender W.n_Sender_finished RSender.l_finished (pe_get W.c_Endpoint W.n_Endpoint_sender REndpoint.l_sender (pv 0))))))) (pss_one ps_retN) pss_nil)
      (pss_cons (ps_expr (pe_mt0 (ok_Sender_finish (P := P) (K := K) W) (hr.mono (by decide)) (pe_get W.c_Endpoint W.n_Endpoint_sender REndpoint.l_sender (pv 0))))
      (pss_one (ps_expr (pe_mt (ok_Endpoint_settle (P := P) (K := K) W) (hr.mono (by decide)) (pv 0) (pa_cons pe_non pa_nil)))))), ?_⟩
    obtain ⟨nx, oc, fi, ab, al, si, at9⟩ := d
    have hb : ab = false := hb
    have hf : fi = false := hf
    subst hb hf
    walk_at "s"
    refine u_SFinish (by walk_at "look") ?_
    walk_at "s"
    have z0 : EAt K H oa o A' ⟨nx, oc, true, false, al, si, at9⟩ := z0
    refine u_Settle (d := ⟨nx, oc, true, false, al, si, at9⟩) rfl (by walk_at "look") (by walk_at "look") (by walk_at "look") ?_
    walk_at "s"
    rename_i H1 e1 h1 H2 e2 h2
    exact q _ (by walk_at "kp") h2 (by walk_at "look")
theorem ok_Endpoint_finish (W : Wld K mg) : MFn P w K mg base (He.ga K "Endpoint") "finish" 7 ["self"] [] (spEFinish K) := by
  obtain ⟨fd, F1, F⟩ := fo_Endpoint_finish (P := P) (w := w) (base := base) W
  exact ⟨⟨_, fd, [], W.c_Endpoint, W.m_Endpoint_finish, F1, F.bindsN fun _ _ _ _ _ _ us hl => match us, hl with | [_], _ => rfl, .nil⟩⟩
theorem u_EFinish {oa : Addr} {o : OptD} {A : EA} {d : EndD} {H : Hp} {Q : VK} (hb : d.ab = false) (hf : d.fin = false) (h0 : EAt K H oa o A d) (h1 : SAt K H o A d) (h2 : RAt K H o A) (n0 : A.r ≠ A.s) (n1 : A.s ≠ A.e) (q : RES K oa o A { d with fin := true } H Q) : spEFinish K [.ref A.e] H Q E0 := ⟨oa, o, A, d, rfl, hb, hf, h0, h1, h2, n0, n1, q⟩
def spEAbort (K : PySem.W.Frag) : Sp := fun vs H Q _ => ∃ (oa : Addr) (o : OptD) (A : EA) (d : EndD), vs = [.ref A.e] ∧ d.ab = false ∧ EAt K H oa o A d ∧ RE K oa o A { d with ab := true } H Q
abbrev N_Endpoint_abort : List Str := ["self"]
theorem sc_Endpoint_abort : FnScope N_Endpoint_abort ["self"] (defScope s_Endpoint_abort) := ⟨rfl, rfl, rfl, by decide +kernel, rfl, by decide +kernel, by decide +kernel⟩
theorem fo_Endpoint_abort (W : Wld K mg) : ∃ fd, FnOk P w K mg base CX0 3 (pl_Endpoint_abort.ad K) fd ["self"] (spEAbort K) ∧ FunD K "abort" "Endpoint.abort" (defArgs s_Endpoint_abort) (defBody s_Endpoint_abort) (defScope s_Endpoint_abort) [] [] (pl_Endpoint_abort.ad K) fd := by
  obtain ⟨fd, F⟩ := W.d_Endpoint_abort
  refine ⟨fd, F.ok sc_Endpoint_abort (fun vs H Q E h => ?_) (fun cdv A outer s H vs Q E hr h => ?_), F⟩
  · obtain ⟨oa, o, A', d, rfl, hb, z0, q⟩ := h; rfl
  · obtain ⟨oa, o, A', d, rfl, hb, z0, q⟩ := h
    have hu := hu_of hr
    refine ⟨_, PSs.nox (pss_cons (ps_if (pt_val (pe_pr (ok_Endpoint_has_ended (P := P) (K := K) W) (hr.mono (by decide)) (pv 0) rfl)) (pss_one ps_retN) pss_nil)
      (pss_cons (ps_put W.c_Endpoint W.n_Endpoint_over REndpoint.p_over REndpoint.len (pv 0) (pe_cmpR op_ne (pe_get W.c_Endpoint W.n_Endpoint_phase REndpoint.l_phase (pv 0)) pe_str (nomark _)))
      (pss_one (ps_expr (pe_mt (ok_Endpoint_close (P := P) (K := K) W) (hr.mono (by decide)) (pv 0) (pa_cons pe_str pa_nil)))))), ?_⟩
    obtain ⟨nx, oc, fi, ab, al, si, at9⟩ := d
    have hb : ab = false := hb
    subst hb
    walk_at "s"
    refine u_Close (o := o) (oa := oa) (d := ⟨nx, oc, fi, false, al, si, at9⟩) (A := A') (by walk_at "ins") ?_
    walk_at "s"
    exact q _ (by walk_at "kp") (by walk_at "look")
theorem ok_Endpoint_abort (W : Wld K mg) : MFn P w K mg base (He.ga K "Endpoint") "abort" 3 ["self"] [] (spEAbort K) := by
  obtain ⟨fd, F1, F⟩ := fo_Endpoint_abort (P := P) (w := w) (base := base) W
  exact ⟨⟨_, fd, [], W.c_Endpoint, W.m_Endpoint_abort, F1, F.bindsN fun _ _ _ _ _ _ us hl => match us, hl with | [_], _ => rfl, .nil⟩⟩
theorem u_EAbort {oa : Addr} {o : OptD} {A : EA} {d : EndD} {H : Hp} {Q : VK} (hb : d.ab = false) (h0 : EAt K H oa o A d) (q : RE K oa o A { d with ab := true } H Q) : spEAbort K [.ref A.e] H Q E0 := ⟨oa, o, A, d, rfl, hb, h0, q⟩
end
end
/-! part D10 -/
section
set_option maxHeartbeats 4000000
open PySem PySem.Spec PyProof.Rows L2 ClX

section
variable {P : Program} [PrOk P] {w : World} {K : PySem.W.Frag} {mg : Str → Option Value} {base : Heap}
structure SkD where
  cnt : Int
  port : Int
  peer : Int
  pp : Int
abbrev SkD.r (k : SkD) (e : Addr) : RSocket := ⟨.int k.cnt, .int k.port, .int k.peer, .int k.pp, .non, .non, .non, .bl false, .bl false, .ref e⟩
abbrev KAt (K : PySem.W.Frag) (H : Hp) (s sd e : Addr) (k : SkD) : Prop := H s = some (.ins (He.ga K "Socket") sd (RSocket.fs (k.r e)))
def spFirst (K : PySem.W.Frag) : Sp := fun vs H Q _ => ∃ (s sd e : Addr) (k : SkD), vs = [.ref s] ∧ KAt K H s sd e k ∧ Q (.int (k.cnt * 2654435761 % 4294967296)) H
--OVER first {'self.count * FACTOR & CIRCLE_socket - 1': ('(pe_op op_andM (pe_op op_mul (pe_get W.c_Socket W.n_Socket_count RSocket.l_count_ (pv 0)) (pe_gint rfl W.i_FACTOR)) (pe_op op_sub (pe_gint rfl W.i_CIRCLE_socket) pe_int))', 'int')}
local macro_rules | `(tactic| walk_at "s1") => `(tactic| first
  | (with_reducible refine c_and32 ?_))
abbrev N_Socket_first : List Str := ["self"]
theorem sc_Socket_first : FnScope N_Socket_first ["self"] (defScope s_Socket_first) := ⟨rfl, rfl, rfl, by decide +kernel, rfl, by decide +kernel, by decide +kernel⟩
theorem fo_Socket_first (W : Wld K mg) : ∃ fd, FnOk P w K mg base CX0 1 (pl_Socket_first.ad K) fd ["self"] (spFirst K) ∧ FunD K "first" "Socket.first" (defArgs s_Socket_first) (defBody s_Socket_first) (defScope s_Socket_first) [] [] (pl_Socket_first.ad K) fd := by
  obtain ⟨fd, F⟩ := W.d_Socket_first
  refine ⟨fd, F.ok sc_Socket_first (fun vs H Q E h => ?_) (fun cdv A outer s H vs Q E hr h => ?_), F⟩
  · obtain ⟨s9, sd, e, k, rfl, z1, q⟩ := h; rfl
  · obtain ⟨s9, sd, e, k, rfl, z1, q⟩ := h
    have hu := hu_of hr
    refine ⟨_, PSs.nox (pss_one (ps_ret (pe_op op_andM (pe_op op_mul (pe_get W.c_Socket W.n_Socket_count RSocket.l_count_ (pv 0)) (pe_gint rfl W.i_FACTOR)) (pe_op op_sub (pe_gint rfl W.i_CIRCLE_socket) pe_int)))), ?_⟩
    walk_at "s"
    rw [p32]
    exact q
theorem ok_Socket_first (W : Wld K mg) : PFn P w K mg base (He.ga K "Socket") "first" 1 (spFirst K) := by
  obtain ⟨fd, F1, F⟩ := fo_Socket_first (P := P) (w := w) (base := base) W
  exact ⟨⟨_, _, fd, W.c_Socket, W.p_Socket_first, F1, F.bindsN fun _ _ _ _ _ _ us hl => match us, hl with | [_], _ => rfl⟩⟩
theorem u_First {s sd e : Addr} {k : SkD} {H : Hp} {Q : VK} (h : KAt K H s sd e k) (q : Q (.int (k.cnt * 2654435761 % 4294967296)) H) : spFirst K [.ref s] H Q E0 := ⟨s, sd, e, k, rfl, h, q⟩
abbrev segO (k : SkD) (o : OptD) (now : Int) : SegD := ⟨k.port, k.pp, (k.cnt * 2654435761 % 4294967296 + 0) % 4294967296, k.cnt, if o.room < 65535 then o.room else 65535, o.mss, shf o.room, now % 4294967296⟩
def RSeg (K : PySem.W.Frag) (d : SegD) (H : Hp) (Q : VK) : Prop := ∀ p dx rl st dl H', H p = none → Same H H' → SegOK K H' p dx rl st dl d → Q (.ref p) H'
def spToSeg (K : PySem.W.Frag) : Sp := fun vs H Q _ => ∃ (s sd oa od : Addr) (k : SkD) (o : OptD) (A : EA) (d : EndD) (p dx dl rl T : Addr) (now : Int), vs = [.ref s, .ref p] ∧ KAt K H s sd A.e k ∧ EAt K H oa o A d ∧ OAt K H oa od o ∧ o.Ok ∧ PcOK K H p dx dl rl o.room (.ref T) ∧ H T = some (.tup [.int (now % 4294967296), .int 0]) ∧ RSeg K (segO k o now) H Q
local macro_rules | `(tactic| walk_at "s1") => `(tactic| first
  | (show spFirst _ _ _ _ _; refine' u_First ?k1 ?k2; (case k1 => walk_at "look"))
  | (show spWrap _ _ _ _; refine u_wrap ?_)
  | (show spShift _ _ _ _ _; refine' u_shift ?k1 ?k2 ?k3; (case k1 => assumption); (case k2 => walk_at "look"))
  | (show spSegmentI _ _ _ _ _ _; refine' u_SegmentI ?k1 ?k2 ?k3 ?k4; (case k1 => walk_at "look"); (case k2 => walk_at "emp"); (case k3 => walk_at "emp")))
abbrev N_Socket_to_segment : List Str := ["self", "piece", "options", "window", "ack", "ranges", "row"]
theorem sc_Socket_to_segment : FnScope N_Socket_to_segment ["self", "piece"] (defScope s_Socket_to_segment) := ⟨rfl, rfl, rfl, by decide +kernel, rfl, by decide +kernel, by decide +kernel⟩
theorem fo_Socket_to_segment (W : Wld K mg) : ∃ fd, FnOk P w K mg base CX0 5 (pl_Socket_to_segment.ad K) fd ["self", "piece"] (spToSeg K) ∧ FunD K "to_segment" "Socket.to_segment" (defArgs s_Socket_to_segment) (defBody s_Socket_to_segment) (defScope s_Socket_to_segment) [] [] (pl_Socket_to_segment.ad K) fd := by
  obtain ⟨fd, F⟩ := W.d_Socket_to_segment
  refine ⟨fd, F.ok sc_Socket_to_segment (fun vs H Q E h => ?_) (fun cdv A outer s H vs Q E hr h => ?_), F⟩
  · obtain ⟨s9, sd, oa, od, k, o, A', d, p, dx, dl, rl, T, now, rfl, z1, z2, z3, ok, ⟨z4, z5, z6, n1, n2⟩, z7, q⟩ := h; rfl
  · obtain ⟨s9, sd, oa, od, k, o, A', d, p, dx, dl, rl, T, now, rfl, z1, z2, z3, ok, ⟨z4, z5, z6, n1, n2⟩, z7, q⟩ := h
    have hu := hu_of hr
    refine ⟨_, PSs.nox (pss_cons (ps_set (i := 2) sc_Socket_to_segment.nd rfl (Or.inl rfl) (pe_get W.c_Endpoint W.n_Endpoint_options REndpoint.l_options (pe_get W.c_Socket W.n_Socket_endpoint RSocket.l_endpoint (pv 0))))
      (pss_cons (ps_set (i := 3) sc_Socket_to_segment.nd rfl (Or.inl rfl) (pe_get W.c_Piece W.n_Piece_window RPiece.l_window (pv 1)))
      (pss_cons (ps_if (PW.pt (pw_and (pt_not (pt_val (pe_get W.c_Piece W.n_Piece_syn RPiece.l_syn (pv 1)))) (pw_and1 (pt_cmpR op_notN (pe_get W.c_Socket W.n_Socket_peer_shift RSocket.l_peer_shift (pv 0)) pe_non (nomark _))))) pss_never pss_nil)
      (pss_cons (ps_set (i := 4) sc_Socket_to_segment.nd rfl (Or.inl rfl) pe_non)
      (pss_cons (ps_set (i := 5) sc_Socket_to_segment.nd rfl (Or.inl rfl) (pe_lst pa_nil))
      (pss_cons (ps_if (pt_cmpR op_notN (pe_get W.c_Socket W.n_Socket_peer_first RSocket.l_peer_first (pv 0)) pe_non (nomark _)) pss_never pss_nil)
      (pss_one (ps_ret (pe_mkK (ok_Segment_make_k (P := P) (K := K) W) (hr.mono (by decide)) (by rfl) (pa_cons (pe_get W.c_Socket W.n_Socket_port RSocket.l_port (pv 0)) (pa_cons (pe_get W.c_Socket W.n_Socket_peer_port RSocket.l_peer_port (pv 0)) pa_nil)) (pk_cons (pe_fn (ok_wrap (P := P) (K := K) W) (hr.mono (by decide)) (by rfl) (pa_cons (pe_pr (ok_Socket_first (P := P) (K := K) W) (hr.mono (by decide)) (pv 0) rfl) (pa_cons (pe_get W.c_Piece W.n_Piece_start RPiece.l_start (pv 1)) pa_nil))) (pk_cons (pe_get W.c_Socket W.n_Socket_count RSocket.l_count_ (pv 0)) (pk_cons (pe_get W.c_Socket W.n_Socket_peer_count RSocket.l_peer_count (pv 0)) (pk_cons (pv 4) (pk_cons (pe_get W.c_Piece W.n_Piece_syn RPiece.l_syn (pv 1)) (pk_cons (pe_get W.c_Piece W.n_Piece_fin RPiece.l_fin (pv 1)) (pk_cons (pe_get W.c_Piece W.n_Piece_reset RPiece.l_reset (pv 1)) (pk_cons (pe_get W.c_Piece W.n_Piece_marked RPiece.l_marked (pv 1)) (pk_cons (pe_get W.c_Piece W.n_Piece_cut RPiece.l_cut (pv 1)) (pk_cons (pe_callB (call_min2 rfl) (by rfl) W.f_min bt_min (pa_cons pe_int (pa_cons (pv 3) pa_nil))) (pk_cons (pe_ifExp (pt_val (pe_get W.c_Piece W.n_Piece_syn RPiece.l_syn (pv 1))) (pe_get W.c_Options W.n_Options_mss ROptions.l_mss (pv 2)) pe_non) (pk_cons (pe_ifExp (pt_val (pe_get W.c_Piece W.n_Piece_syn RPiece.l_syn (pv 1))) (pe_pr (ok_Options_shift (P := P) (K := K) W) (hr.mono (by decide)) (pv 2) rfl) pe_non) (pk_cons (pe_get W.c_Piece W.n_Piece_syn RPiece.l_syn (pv 1)) (pk_cons (pv 5) (pk_cons (pe_get W.c_Piece W.n_Piece_stamp RPiece.l_stamp (pv 1)) (pk_cons (pe_get W.c_Piece W.n_Piece_data RPiece.l_data (pv 1)) pk_nil))))))))))))))))))))))))), ?_⟩
    walk_at "s"
    rename_i p9 f9 px pd fpx fpd npx a b H1 fa fb n3 n4 n5 e1 h1 ha hb
    exact q px pd a T b H1 (by walk_at "fresh") (by walk_at "same") ⟨by walk_at "ins", ha, by walk_at "look", hb⟩
theorem ok_Socket_to_segment (W : Wld K mg) : MFn P w K mg base (He.ga K "Socket") "to_segment" 5 ["self", "piece"] [] (spToSeg K) := by
  obtain ⟨fd, F1, F⟩ := fo_Socket_to_segment (P := P) (w := w) (base := base) W
  exact ⟨⟨_, fd, [], W.c_Socket, W.m_Socket_to_segment, F1, F.bindsN fun _ _ _ _ _ _ us hl => match us, hl with | [_, _], _ => rfl, .nil⟩⟩
theorem u_ToSeg {s sd oa od : Addr} {k : SkD} {o : OptD} {A : EA} {d : EndD} {p dx dl rl T : Addr} {now : Int} {H : Hp} {Q : VK} (h1 : KAt K H s sd A.e k) (h2 : EAt K H oa o A d) (h3 : OAt K H oa od o) (ok : o.Ok) (h4 : PcOK K H p dx dl rl o.room (.ref T)) (h5 : H T = some (.tup [.int (now % 4294967296), .int 0])) (q : RSeg K (segO k o now) H Q) : spToSeg K [.ref s, .ref p] H Q E0 := ⟨s, sd, oa, od, k, o, A, d, p, dx, dl, rl, T, now, rfl, h1, h2, h3, ok, h4, h5, q⟩
/-- the host -/
structure HA where
  h : Addr
  hd : Addr
  oa : Addr
  od : Addr
  L : Addr
  S : Addr
  P : Addr
structure HD where
  addr : Int
  ctr : Int
  now : Int
abbrev HA.r (B : HA) (g : HD) : RHost := ⟨.int g.addr, .ref B.oa, .int g.ctr, .int g.now, .ref B.L, .ref B.S, .ref B.P⟩
abbrev HAt (K : PySem.W.Frag) (H : Hp) (B : HA) (g : HD) : Prop := H B.h = some (.ins (He.ga K "Host") B.hd (RHost.fs (B.r g)))
/-- a packet -/
structure PkOK (K : PySem.W.Frag) (H : Hp) (p dx oc : Addr) (a t : Int) (ns : List Int) : Prop where
  hp : H p = some (.ins (He.ga K "Packet") dx (RPacket.fs ⟨.int a, .int t, .ref oc, .bl false⟩))
  ho : H oc = some (.lst (nis ns))
def RPost (K : PySem.W.Frag) (B : HA) (a t : Int) (ns : List Int) (ps : List V) (H : Hp) (Q : VK) : Prop := ∀ p dx oc H', H p = none → H oc = none → p ≠ B.P → Kp [B.P] H H' → H' B.P = some (.lst (ps ++ [.ref p])) → PkOK K H' p dx oc a t ns → Q .non H'
def spPost (K : PySem.W.Frag) : Sp := fun vs H Q _ => ∃ (B : HA) (g : HD) (t : Int) (p dx rl st dl : Addr) (d : SegD) (ps : List V), vs = [.ref B.h, .int t, .ref p] ∧ HAt K H B g ∧ B.h ≠ B.P ∧ H B.P = some (.lst ps) ∧ ps.length ≤ 1000 ∧ SegOK K H p dx rl st dl d ∧ RPost K B g.addr t (enc g.addr t d) ps H Q
local macro_rules | `(tactic| walk_at "seg") => `(tactic| (refine' SegOK.mk ?k1 ?k2 ?k3 ?k4; (case k1 => walk_at "look"); (case k2 => walk_at "look"); (case k3 => walk_at "look"); (case k4 => walk_at "look")))
local macro_rules | `(tactic| walk_at "s1") => `(tactic| first
  | (show spEncode _ _ _ _ _; refine' u_encode ?k1 ?k2; (case k1 => walk_at "seg"))
  | (show spPacketI _ _ _ _ _; refine' u_PacketI ?k1 ?k2 ?k3 ?k4; (case k1 => walk_at "look"); (case k2 => walk_at "look"); (case k3 => walk_at "ne")))
abbrev N_Host__post : List Str := ["self", "target", "segment", "octets"]
theorem sc_Host__post : FnScope N_Host__post ["self", "target", "segment"] (defScope s_Host__post) := ⟨rfl, rfl, rfl, by decide +kernel, rfl, by decide +kernel, by decide +kernel⟩
theorem fo_Host__post (W : Wld K mg) : ∃ fd, FnOk P w K mg base CX0 8 (pl_Host__post.ad K) fd ["self", "target", "segment"] (spPost K) ∧ FunD K "_post" "Host._post" (defArgs s_Host__post) (defBody s_Host__post) (defScope s_Host__post) [] [] (pl_Host__post.ad K) fd := by
  obtain ⟨fd, F⟩ := W.d_Host__post
  refine ⟨fd, F.ok sc_Host__post (fun vs H Q E h => ?_) (fun cdv A outer s H vs Q E hr h => ?_), F⟩
  · obtain ⟨B, g, t, p, dx, rl, st, dl, d, ps, rfl, z1, n1, z2, l1, ⟨z3, z4, z5, z6⟩, q⟩ := h; rfl
  · obtain ⟨B, g, t, p, dx, rl, st, dl, d, ps, rfl, z1, n1, z2, l1, ⟨z3, z4, z5, z6⟩, q⟩ := h
    have hu := hu_of hr
    refine ⟨_, PSs.nox (pss_cons (ps_set (i := 3) sc_Host__post.nd rfl (Or.inl rfl) (pe_fn (ok_encode (P := P) (K := K) W) (hr.mono (by decide)) (by rfl) (pa_cons (pe_get W.c_Host W.n_Host_address RHost.l_address (pv 0)) (pa_cons (pv 1) (pa_cons (pv 2) pa_nil)))))
      (pss_one (ps_expr (pe_bm PySem.F.plainAttrs_list PySem.F.slot_list_append PySem.F.type_list_append mt_append (pe_get W.c_Host W.n_Host__packets RHost.l_packets (pv 0)) (pa_cons (pe_mk (ok_Packet_make (P := P) (K := K) W) (hr.mono (by decide)) (by rfl) (pa_cons (pe_get W.c_Host W.n_Host_address RHost.l_address (pv 0)) (pa_cons (pv 1) (pa_cons (pv 3) pa_nil)))) pa_nil))))), ?_⟩
    walk_at "s"
    rename_i oc H1 foc e1 hoc px pd fpx fpd npx a H2 fa n3 e2 h2 ha
    exact q px pd a _ (by walk_at "fresh") (by walk_at "fresh") (by walk_at "ne") (by walk_at "kp") (by walk_at "look") ⟨by walk_at "look", by walk_at "look"⟩
theorem ok_Host__post (W : Wld K mg) : MFn P w K mg base (He.ga K "Host") "_post" 8 ["self", "target", "segment"] [] (spPost K) := by
  obtain ⟨fd, F1, F⟩ := fo_Host__post (P := P) (w := w) (base := base) W
  exact ⟨⟨_, fd, [], W.c_Host, W.m_Host__post, F1, F.bindsN fun _ _ _ _ _ _ us hl => match us, hl with | [_, _, _], _ => rfl, .nil⟩⟩
theorem u_Post {B : HA} {g : HD} {t : Int} {p dx rl st dl : Addr} {d : SegD} {ps : List V} {H : Hp} {Q : VK} (h1 : HAt K H B g) (n : B.h ≠ B.P) (h2 : H B.P = some (.lst ps)) (l : ps.length ≤ 1000) (h3 : SegOK K H p dx rl st dl d) (q : RPost K B g.addr t (enc g.addr t d) ps H Q) : spPost K [.ref B.h, .int t, .ref p] H Q E0 := ⟨B, g, t, p, dx, rl, st, dl, d, ps, rfl, h1, n, h2, l, h3, q⟩
end
end
/-! part D11 -/
section
set_option maxHeartbeats 4000000
open PySem PySem.Spec PyProof.Rows L2 ClX

section
variable {P : Program} [PrOk P] {w : World} {K : PySem.W.Frag} {mg : Str → Option Value} {base : Heap}
/-- a socket stands in the heap -/
structure SkA where
  s : Addr
  sd : Addr
  A : EA
def RSd (K : PySem.W.Frag) (B : HA) (g : HD) (x : SkA) (k : SkD) (o : OptD) (ps : List V) (H : Hp) (Q : VK) : Prop := ∀ p dx oc H', H p = none → H oc = none → p ≠ B.P → Kp [x.A.e, x.A.s, B.P] H H' → EAt K H' B.oa o x.A (dS o g.now) → SAt K H' o x.A (dS o g.now) → H' B.P = some (.lst (ps ++ [.ref p])) → PkOK K H' p dx oc g.addr k.peer (enc g.addr k.peer (segO k o g.now)) → Q .non H'
def spHSend (K : PySem.W.Frag) : Sp := fun vs H Q _ => ∃ (B : HA) (g : HD) (x : SkA) (k : SkD) (o : OptD) (d : EndD) (z : Int) (ps : List V), vs = [.ref B.h, .ref x.s] ∧ HAt K H B g ∧ KAt K H x.s x.sd x.A.e k ∧ EAt K H B.oa o x.A d ∧ SAt K H o x.A d ∧ CAt K H o x.A ∧ OAt K H B.oa B.od o ∧ H x.A.q = some (.lst (nis d.octs)) ∧ H x.A.k = some (.lst []) ∧
  (((d.ab = true ∨ d.nxt = 1) ∧ d.alarm = .int z ∧ RV .non H Q) ∨ (d = fr0 g.now ∧ o.Ok ∧ TAt K H o x.A ∧ x.A.Ap ∧ B.oa ≠ x.A.e ∧ B.oa ≠ x.A.s ∧ H B.P = some (.lst ps) ∧ ps.length ≤ 1000 ∧ B.h ≠ x.A.e ∧ B.h ≠ x.A.s ∧ B.h ≠ B.P ∧ B.P ≠ x.A.e ∧ B.P ≠ x.A.s ∧ x.s ≠ x.A.e ∧ x.s ≠ x.A.s ∧ x.s ≠ B.P ∧ RSd K B g x k o ps H Q))
local macro_rules | `(tactic| walk_at "pc") => `(tactic| (refine' PcOK.mk ?k1 ?k2 ?k3 ?k4 ?k5; (case k1 => walk_at "look"); (case k2 => walk_at "look"); (case k3 => walk_at "look"); (case k4 => assumption); (case k5 => assumption)))
local macro_rules | `(tactic| walk_at "seg") => `(tactic| (refine' SegOK.mk ?k1 ?k2 ?k3 ?k4; (case k1 => walk_at "look"); (case k2 => walk_at "look"); (case k3 => walk_at "look"); (case k4 => walk_at "look")))
abbrev N_Host__send : List Str := ["self", "sock", "piece"]
theorem sc_Host__send : FnScope N_Host__send ["self", "sock"] (defScope s_Host__send) := ⟨rfl, rfl, rfl, by decide +kernel, rfl, by decide +kernel, by decide +kernel⟩
theorem fo_Host__send (W : Wld K mg) : ∃ fd, FnOk P w K mg base CX0 13 (pl_Host__send.ad K) fd ["self", "sock"] (spHSend K) ∧ FunD K "_send" "Host._send" (defArgs s_Host__send) (defBody s_Host__send) (defScope s_Host__send) [] [] (pl_Host__send.ad K) fd := by
  obtain ⟨fd, F⟩ := W.d_Host__send
  refine ⟨fd, F.ok sc_Host__send (fun vs H Q E h => ?_) (fun cdv A outer s H vs Q E hr h => ?_), F⟩
  · obtain ⟨B, g, x, k, o, d, z, ps, rfl, z1, z2, z3, z4, z5, z6, z7, z8, hq⟩ := h; rfl
  · obtain ⟨B, g, x, k, o, d, z, ps, rfl, z1, z2, z3, z4, z5, z6, z7, z8, hq⟩ := h
    have hu := hu_of hr
    refine ⟨_, PSs.nox (pss_one (ps_for PassesOwn.never rfl (pi_list (pe_mt (ok_Endpoint_output (P := P) (K := K) W) (hr.mono (by decide)) (pe_get W.c_Socket W.n_Socket_endpoint RSocket.l_endpoint (pv 1)) (pa_cons (pe_get W.c_Host W.n_Host_now RHost.l_now (pv 0)) pa_nil))) (pg_name (i := 2) sc_Host__send.nd rfl (Or.inl rfl)) (pss_one (ps_expr (pe_mt (ok_Host__post (P := P) (K := K) W) (hr.mono (by decide)) (pv 0) (pa_cons (pe_get W.c_Socket W.n_Socket_peer RSocket.l_peer (pv 1)) (pa_cons (pe_mt (ok_Socket_to_segment (P := P) (K := K) W) (hr.mono (by decide)) (pv 1) (pa_cons (pv 2) pa_nil)) pa_nil))))))), ?_⟩
    rcases hq with ⟨hn, ha, q⟩ | ⟨rfl, ok, z9, ap, n1, n2, zP, lP, n3, n4, n5, n6, n7, n8, n9, n10, q⟩
    · walk_at "s"
      refine u_Out1 z3 z4 z5 z6 z7 z8 hn ha ?_
      walk_at "s"
      rename_i pl H1 fpl e1 h1
      refine c_loopL (xs := []) (fun i σ H' => Same H1 H') ?_ ?_ ?_ ?_
      · walk_at "same"
      · intro i σ H' e
        walk_at "look"
      · intro i y σ H' hx
        simp at hx
      · intro σ H' e
        walk_at "s"
        exact q _ (by walk_at "same")
    · have z7 : H x.A.q = some (.lst []) := z7
      walk_at "s"
      refine u_Out0 z3 z4 z5 z6 z7 z8 z9 ap n1 n2 ?_
      intro pl p dx dl rl T H1 fpl fp fdl frl fT e1 h1 s1 p1 t1 hl1
      obtain ⟨g1, g2, g3, g4, g5⟩ := p1
      walk_at "s"
      refine c_loopL (xs := [.ref p]) (fun i σ H' => (i = 0 ∧ σ = L2.start N_Host__send [V.ref B.h, V.ref x.s] ∧ H' = H1) ∨ (i = 1 ∧ H' pl = some (.lst [.ref p]) ∧ ∃ p dx oc, H p = none ∧ H oc = none ∧ p ≠ B.P ∧ Kp [x.A.e, x.A.s, B.P] H H' ∧ EAt K H' B.oa o x.A (dS o g.now) ∧ SAt K H' o x.A (dS o g.now) ∧ H' B.P = some (.lst (ps ++ [.ref p])) ∧ PkOK K H' p dx oc g.addr k.peer (enc g.addr k.peer (segO k o g.now)))) ?_ ?_ ?_ ?_
      · exact .inl ⟨rfl, rfl, rfl⟩
      · rintro i σ H' (⟨rfl, rfl, rfl⟩ | ⟨rfl, h, _⟩)
        · exact hl1
        · exact h
      · rintro i y σ H' hx (⟨rfl, rfl, rfl⟩ | ⟨rfl, _⟩)
        · have hy : y = V.ref p := by simpa using hx.symm
          subst hy
          walk_at "s"
          refine u_ToSeg (s := x.s) (sd := x.sd) (oa := B.oa) (od := B.od) (k := k) (o := o) (A := x.A) (d := dS o g.now) (dx := dx) (dl := dl) (rl := rl) (T := T) (now := g.now) (by walk_at "look") (by walk_at "look") (by walk_at "look") ok (by walk_at "pc") (by walk_at "look") ?_
          intro p2 dx2 rl2 st2 dl2 H2 fp2 e2 so2
          walk_at "s"
          refine u_Post (B := B) (g := g) (ps := ps) (by walk_at "look") n5 (by walk_at "look") lP so2 ?_
          intro p3 dx3 oc H3 fp3 foc n11 e3 h3 pk3
          refine .inr ⟨rfl, by walk_at "look", p3, dx3, oc, by walk_at "fresh", by walk_at "fresh", n11, by walk_at "kp", by walk_at "look", by walk_at "look", h3, pk3⟩
        · simp at hx
      · rintro σ H' (⟨h, _⟩ | ⟨_, _, p2, dx2, oc2, f1, f2, n12, e2, h2, s2, l2, pk2⟩)
        · cases h
        · walk_at "s"
          exact q p2 dx2 oc2 H' f1 f2 n12 e2 h2 s2 l2 pk2
theorem ok_Host__send (W : Wld K mg) : MFn P w K mg base (He.ga K "Host") "_send" 13 ["self", "sock"] [] (spHSend K) := by
  obtain ⟨fd, F1, F⟩ := fo_Host__send (P := P) (w := w) (base := base) W
  exact ⟨⟨_, fd, [], W.c_Host, W.m_Host__send, F1, F.bindsN fun _ _ _ _ _ _ us hl => match us, hl with | [_, _], _ => rfl, .nil⟩⟩
end
end
/-! part D12 -/
section
set_option maxHeartbeats 4000000
open PySem PySem.Spec PyProof.Rows L2 ClX

section
variable {P : Program} [PrOk P] {w : World} {K : PySem.W.Frag} {mg : Str → Option Value} {base : Heap}
theorem u_HSend1 {B : HA} {g : HD} {x : SkA} {k : SkD} {o : OptD} {d : EndD} {z : Int} {H : Hp} {Q : VK} (h1 : HAt K H B g) (h2 : KAt K H x.s x.sd x.A.e k) (h3 : EAt K H B.oa o x.A d) (h4 : SAt K H o x.A d) (h5 : CAt K H o x.A) (h6 : OAt K H B.oa B.od o) (h7 : H x.A.q = some (.lst (nis d.octs))) (h8 : H x.A.k = some (.lst []))
    (hn : d.ab = true ∨ d.nxt = 1) (ha : d.alarm = .int z) (q : RV .non H Q) : spHSend K [.ref B.h, .ref x.s] H Q E0 := ⟨B, g, x, k, o, d, z, [], rfl, h1, h2, h3, h4, h5, h6, h7, h8, .inl ⟨hn, ha, q⟩⟩
theorem u_HSend0 {B : HA} {g : HD} {x : SkA} {k : SkD} {o : OptD} {ps : List V} {H : Hp} {Q : VK} (h1 : HAt K H B g) (h2 : KAt K H x.s x.sd x.A.e k) (h3 : EAt K H B.oa o x.A (fr0 g.now)) (h4 : SAt K H o x.A (fr0 g.now)) (h5 : CAt K H o x.A) (h6 : OAt K H B.oa B.od o) (h7 : H x.A.q = some (.lst [])) (h8 : H x.A.k = some (.lst []))
    (ok : o.Ok) (h9 : TAt K H o x.A) (ap : x.A.Ap) (n1 : B.oa ≠ x.A.e) (n2 : B.oa ≠ x.A.s) (hP : H B.P = some (.lst ps)) (lP : ps.length ≤ 1000) (n3 : B.h ≠ x.A.e) (n4 : B.h ≠ x.A.s) (n5 : B.h ≠ B.P) (n6 : B.P ≠ x.A.e) (n7 : B.P ≠ x.A.s) (n8 : x.s ≠ x.A.e) (n9 : x.s ≠ x.A.s) (n10 : x.s ≠ B.P)
    (q : RSd K B g x k o ps H Q) : spHSend K [.ref B.h, .ref x.s] H Q E0 := ⟨B, g, x, k, o, fr0 g.now, 0, ps, rfl, h1, h2, h3, h4, h5, h6, h7, h8, .inr ⟨rfl, ok, h9, ap, n1, n2, hP, lP, n3, n4, n5, n6, n7, n8, n9, n10, q⟩⟩
/-- the host's own objects are apart -/
structure HA.Ap (B : HA) : Prop where
  hS : B.h ≠ B.S
  hP : B.h ≠ B.P
  hL : B.h ≠ B.L
  SP : B.S ≠ B.P
  SL : B.S ≠ B.L
  PL : B.P ≠ B.L
  oh : B.oa ≠ B.h
  oS : B.oa ≠ B.S
  oP : B.oa ≠ B.P
  oL : B.oa ≠ B.L
/-- the host's own objects stood in H -/
structure HA.Old (B : HA) (H : Hp) : Prop where
  h : ∃ u, H B.h = some u
  S : ∃ u, H B.S = some u
  P : ∃ u, H B.P = some u
  oa : ∃ u, H B.oa = some u
  L : ∃ u, H B.L = some u
structure SkA.New (x : SkA) (H : Hp) : Prop where
  s : H x.s = none
  e : H x.A.e = none
  A : x.A.New H
def RAdd (K : PySem.W.Frag) (B : HA) (g : HD) (x : SkA) (k : SkD) (o : OptD) (ss ps : List V) (H : Hp) (Q : VK) : Prop := ∀ p dx oc H', H p = none → H oc = none → Kp [B.h, B.S, B.P, x.A.e, x.A.s] H H' → HAt K H' B { g with ctr := g.ctr + 1 } → H' B.S = some (.lst (ss ++ [.ref x.s])) → EAt K H' B.oa o x.A (dS o g.now) → SAt K H' o x.A (dS o g.now) → H' B.P = some (.lst (ps ++ [.ref p])) → PkOK K H' p dx oc g.addr k.peer (enc g.addr k.peer (segO k o g.now)) → Q (.int k.cnt) H'
def spAdd (K : PySem.W.Frag) : Sp := fun vs H Q _ => ∃ (B : HA) (g : HD) (x : SkA) (k : SkD) (o : OptD) (ss ps : List V) (H0 : Hp), vs = [.ref B.h, .ref x.s] ∧ HAt K H B g ∧ B.Ap ∧ B.Old H0 ∧ x.New H0 ∧ KAt K H x.s x.sd x.A.e k ∧ x.s ≠ x.A.e ∧ x.s ≠ x.A.s ∧ EndOK K H B.oa o x.A (fr0 g.now) ∧ x.A.Ap ∧ OAt K H B.oa B.od o ∧ o.Ok ∧ H B.S = some (.lst ss) ∧ ss.length ≤ 1000 ∧ H B.P = some (.lst ps) ∧ ps.length ≤ 1000 ∧ RAdd K B g x k o ss ps H Q
abbrev N_Host__add : List Str := ["self", "sock"]
theorem sc_Host__add : FnScope N_Host__add ["self", "sock"] (defScope s_Host__add) := ⟨rfl, rfl, rfl, by decide +kernel, rfl, by decide +kernel, by decide +kernel⟩
theorem fo_Host__add (W : Wld K mg) : ∃ fd, FnOk P w K mg base CX0 14 (pl_Host__add.ad K) fd ["self", "sock"] (spAdd K) ∧ FunD K "_add" "Host._add" (defArgs s_Host__add) (defBody s_Host__add) (defScope s_Host__add) [] [] (pl_Host__add.ad K) fd := by
  obtain ⟨fd, F⟩ := W.d_Host__add
  refine ⟨fd, F.ok sc_Host__add (fun vs H Q E h => ?_) (fun cdv A outer s H vs Q E hr h => ?_), F⟩
  · obtain ⟨B, g, x, k, o, ss, ps, H0, rfl, z1, ⟨a1, a2, a3, a4, a5, a6, a7, a8, a9, a10⟩, ⟨⟨u1, y1⟩, ⟨u2, y2⟩, ⟨u3, y3⟩, ⟨u4, y4⟩, ⟨u5, y5⟩⟩, ⟨w1, w2, ⟨w3, w4, w5, w6, w7, w8, w9, w10⟩⟩, z2, n1, n2, ⟨x1, x2, x3, x4, x5, x6, x7, x8, x9⟩, ap, z3, ok, z4, l4, z5, l5, q⟩ := h; rfl
  · obtain ⟨B, g, x, k, o, ss, ps, H0, rfl, z1, ⟨a1, a2, a3, a4, a5, a6, a7, a8, a9, a10⟩, ⟨⟨u1, y1⟩, ⟨u2, y2⟩, ⟨u3, y3⟩, ⟨u4, y4⟩, ⟨u5, y5⟩⟩, ⟨w1, w2, ⟨w3, w4, w5, w6, w7, w8, w9, w10⟩⟩, z2, n1, n2, ⟨x1, x2, x3, x4, x5, x6, x7, x8, x9⟩, ap, z3, ok, z4, l4, z5, l5, q⟩ := h
    have hu := hu_of hr
    refine ⟨_, PSs.nox (pss_cons (ps_putaug W.c_Host W.n_Host_counter RHost.l_counter RHost.p_counter RHost.len (pv 0) pe_int in_add)
      (pss_cons (ps_expr (pe_bm PySem.F.plainAttrs_list PySem.F.slot_list_append PySem.F.type_list_append mt_append (pe_get W.c_Host W.n_Host__sockets RHost.l_sockets (pv 0)) (pa_cons (pv 1) pa_nil)))
      (pss_cons (ps_expr (pe_mt (ok_Host__send (P := P) (K := K) W) (hr.mono (by decide)) (pv 0) (pa_cons (pv 1) pa_nil)))
      (pss_one (ps_ret (pe_get W.c_Socket W.n_Socket_count RSocket.l_count_ (pv 1))))))), ?_⟩
    have x6 : H x.A.q = some (.lst []) := x6
    have ap2 := ap
    obtain ⟨c1, c2, c3, c4, c5, c6, c7, c8, b1, b2, b3, b4, b5, b6, b7⟩ := ap2
    walk_at "s"
    refine u_HSend0 (B := B) (g := ⟨g.addr, g.ctr + 1, g.now⟩) (k := k) (o := o) (x := x) (ps := ps) (by walk_at "look") (by walk_at "look") (by walk_at "look") (by walk_at "look") (by walk_at "look") (by walk_at "look") (by walk_at "look") (by walk_at "look") ok (by walk_at "look") ap (by walk_at "ne") (by walk_at "ne") (by walk_at "look") l5 (by walk_at "ne") (by walk_at "ne") (by walk_at "ne") (by walk_at "ne") (by walk_at "ne") n1 n2 (by walk_at "ne") ?_
    intro p dx oc H1 fp foc np e1 h1 s1 hP1 pk1
    walk_at "s"
    exact q p dx oc H1 (by walk_at "fresh") (by walk_at "fresh") (by walk_at "kp") (by walk_at "look") (by walk_at "look") h1 s1 hP1 pk1
theorem ok_Host__add (W : Wld K mg) : MFn P w K mg base (He.ga K "Host") "_add" 14 ["self", "sock"] [] (spAdd K) := by
  obtain ⟨fd, F1, F⟩ := fo_Host__add (P := P) (w := w) (base := base) W
  exact ⟨⟨_, fd, [], W.c_Host, W.m_Host__add, F1, F.bindsN fun _ _ _ _ _ _ us hl => match us, hl with | [_, _], _ => rfl, .nil⟩⟩
theorem u_Add {B : HA} {g : HD} {x : SkA} {k : SkD} {o : OptD} {ss ps : List V} (H0 : Hp) {H : Hp} {Q : VK} (h1 : HAt K H B g) (ba : B.Ap) (bo : B.Old H0) (xn : x.New H0) (h2 : KAt K H x.s x.sd x.A.e k) (n1 : x.s ≠ x.A.e) (n2 : x.s ≠ x.A.s) (h3 : EndOK K H B.oa o x.A (fr0 g.now)) (ap : x.A.Ap) (h4 : OAt K H B.oa B.od o) (ok : o.Ok) (h5 : H B.S = some (.lst ss)) (l5 : ss.length ≤ 1000) (h6 : H B.P = some (.lst ps)) (l6 : ps.length ≤ 1000) (q : RAdd K B g x k o ss ps H Q) : spAdd K [.ref B.h, .ref x.s] H Q E0 :=
  ⟨B, g, x, k, o, ss, ps, H0, rfl, h1, ba, bo, xn, h2, n1, n2, h3, ap, h4, ok, h5, l5, h6, l6, q⟩
/-- a list of sockets -/
abbrev SksAt (K : PySem.W.Frag) (H : Hp) (l : List (SkA × SkD)) : Prop := ∀ y ∈ l, KAt K H y.1.s y.1.sd y.1.A.e y.2
def spFind (K : PySem.W.Frag) : Sp := fun vs H Q _ => ∃ (B : HA) (g : HD) (l : List (SkA × SkD)) (x : SkA × SkD), vs = [.ref B.h, .int x.2.cnt] ∧ HAt K H B g ∧ H B.S = some (.lst (l.map fun y => .ref y.1.s)) ∧ SksAt K H l ∧ x ∈ l ∧ (∀ y ∈ l, y.2.cnt = x.2.cnt → y.1.s = x.1.s) ∧ Q (.ref x.1.s) H
abbrev N_Host_find : List Str := ["self", "count", "sock"]
theorem sc_Host_find : FnScope N_Host_find ["self", "count"] (defScope s_Host_find) := ⟨rfl, rfl, rfl, by decide +kernel, rfl, by decide +kernel, by decide +kernel⟩
theorem fo_Host_find (W : Wld K mg) : ∃ fd, FnOk P w K mg base CX0 1 (pl_Host_find.ad K) fd ["self", "count"] (spFind K) ∧ FunD K "find" "Host.find" (defArgs s_Host_find) (defBody s_Host_find) (defScope s_Host_find) [] [] (pl_Host_find.ad K) fd := by
  obtain ⟨fd, F⟩ := W.d_Host_find
  refine ⟨fd, F.ok sc_Host_find (fun vs H Q E h => ?_) (fun cdv A outer s H vs Q E hr h => ?_), F⟩
  · obtain ⟨B, g, l, x, rfl, z1, z2, z3, hx, hu1, q⟩ := h; rfl
  · obtain ⟨B, g, l, x, rfl, z1, z2, z3, hx, hu1, q⟩ := h
    have hu := hu_of hr
    refine ⟨_, PSs.nox (pss_cons (ps_for PassesOwn.never rfl (pi_list (pe_get W.c_Host W.n_Host__sockets RHost.l_sockets (pv 0))) (pg_name (i := 2) sc_Host_find.nd rfl (Or.inl rfl)) (pss_one (ps_if (pt_cmpR op_eq (pe_get W.c_Socket W.n_Socket_count RSocket.l_count_ (pv 2)) (pv 1) (nomark _)) (pss_one (ps_ret (pv 2))) pss_nil)))
      (pss_one (ps_ret pe_non))), ?_⟩
    walk_at "s"
    refine c_loopL (xs := l.map fun y => .ref y.1.s) (fun i σ H' => H' = H ∧ (∃ v, σ = [some (.ref B.h), some (.int x.2.cnt), v]) ∧ ∀ j, j < i → ∀ y, l[j]? = some y → y.2.cnt ≠ x.2.cnt) ?_ ?_ ?_ ?_
    · exact ⟨rfl, ⟨none, rfl⟩, fun j hj => absurd hj (Nat.not_lt_zero _)⟩
    · rintro i σ H' ⟨rfl, _⟩
      exact z2
    · rintro i v σ H' hv ⟨rfl, ⟨u, rfl⟩, hb⟩
      rw [List.getElem?_map] at hv
      cases hy : l[i]? with
      | none => rw [hy] at hv; cases hv
      | some y =>
        rw [hy] at hv
        have ev : V.ref y.1.s = v := Option.some.inj hv
        subst ev
        have hm := List.mem_of_getElem? hy
        have z4 := z3 y hm
        walk_at "s"
        refine br_2 (fun e => ?_) (fun e => ?_)
        · have e4 : y.2.cnt = x.2.cnt := by simpa using e
          walk_at "s"
          exact lk_v q (by rw [hu1 y hm e4])
        · have e4 : y.2.cnt ≠ x.2.cnt := by simpa using e
          walk_at "s"
          refine ⟨rfl, ⟨_, rfl⟩, fun j hj z hz => ?_⟩
          rcases Nat.lt_succ_iff_lt_or_eq.mp hj with h | h
          · exact hb j h z hz
          · subst h
            rw [hy] at hz
            rw [← Option.some.inj hz]
            exact e4
    · rintro σ H' ⟨rfl, ⟨u, rfl⟩, hb⟩
      obtain ⟨j, hj, e⟩ := List.getElem_of_mem hx
      exact absurd rfl (hb j (by simpa using hj) x (by rw [List.getElem?_eq_getElem hj, e]))
theorem ok_Host_find (W : Wld K mg) : MFn P w K mg base (He.ga K "Host") "find" 1 ["self", "count"] [] (spFind K) := by
  obtain ⟨fd, F1, F⟩ := fo_Host_find (P := P) (w := w) (base := base) W
  exact ⟨⟨_, fd, [], W.c_Host, W.m_Host_find, F1, F.bindsN fun _ _ _ _ _ _ us hl => match us, hl with | [_, _], _ => rfl, .nil⟩⟩
theorem u_Find {B : HA} {g : HD} {l : List (SkA × SkD)} {x : SkA × SkD} {H : Hp} {Q : VK} (h1 : HAt K H B g) (h2 : H B.S = some (.lst (l.map fun y => .ref y.1.s))) (h3 : SksAt K H l) (hx : x ∈ l) (hu : ∀ y ∈ l, y.2.cnt = x.2.cnt → y.1.s = x.1.s) (q : Q (.ref x.1.s) H) : spFind K [.ref B.h, .int x.2.cnt] H Q E0 := ⟨B, g, l, x, rfl, h1, h2, h3, hx, hu, q⟩
abbrev N_Host__known : List Str := ["self", "count", "sock"]
theorem sc_Host__known : FnScope N_Host__known ["self", "count"] (defScope s_Host__known) := ⟨rfl, rfl, rfl, by decide +kernel, rfl, by decide +kernel, by decide +kernel⟩
theorem fo_Host__known (W : Wld K mg) : ∃ fd, FnOk P w K mg base CX0 2 (pl_Host__known.ad K) fd ["self", "count"] (spFind K) ∧ FunD K "_known" "Host._known" (defArgs s_Host__known) (defBody s_Host__known) (defScope s_Host__known) [] [] (pl_Host__known.ad K) fd := by
  obtain ⟨fd, F⟩ := W.d_Host__known
  refine ⟨fd, F.ok sc_Host__known (fun vs H Q E h => ?_) (fun cdv A outer s H vs Q E hr h => ?_), F⟩
  · obtain ⟨B, g, l, x, rfl, z1, z2, z3, hx, hu1, q⟩ := h; rfl
  · obtain ⟨B, g, l, x, rfl, z1, z2, z3, hx, hu1, q⟩ := h
    have hu := hu_of hr
    refine ⟨_, PSs.nox (pss_cons (ps_set (i := 2) sc_Host__known.nd rfl (Or.inl rfl) (pe_mt (ok_Host_find (P := P) (K := K) W) (hr.mono (by decide)) (pv 0) (pa_cons (pv 1) pa_nil)))
      (pss_cons (ps_if (pt_cmpR op_isN (pv 2) pe_non (nomark _)) (pss_one ps_never) pss_nil)
      (pss_one (ps_ret (pv 2))))), ?_⟩
    walk_at "s"
    refine u_Find z1 z2 z3 hx hu1 ?_
    walk_at "s"
    exact q
theorem ok_Host__known (W : Wld K mg) : MFn P w K mg base (He.ga K "Host") "_known" 2 ["self", "count"] [] (spFind K) := by
  obtain ⟨fd, F1, F⟩ := fo_Host__known (P := P) (w := w) (base := base) W
  exact ⟨⟨_, fd, [], W.c_Host, W.m_Host__known, F1, F.bindsN fun _ _ _ _ _ _ us hl => match us, hl with | [_, _], _ => rfl, .nil⟩⟩
def spFull (K : PySem.W.Frag) : Sp := fun vs H Q _ => ∃ (B : HA) (g : HD) (ss : List V), vs = [.ref B.h] ∧ HAt K H B g ∧ H B.S = some (.lst ss) ∧ ss.length < 32 ∧ g.ctr < 4294967295 ∧ Q (.bl false) H
abbrev N_Host__is_full : List Str := ["self"]
theorem sc_Host__is_full : FnScope N_Host__is_full ["self"] (defScope s_Host__is_full) := ⟨rfl, rfl, rfl, by decide +kernel, rfl, by decide +kernel, by decide +kernel⟩
theorem fo_Host__is_full (W : Wld K mg) : ∃ fd, FnOk P w K mg base CX0 1 (pl_Host__is_full.ad K) fd ["self"] (spFull K) ∧ FunD K "_is_full" "Host._is_full" (defArgs s_Host__is_full) (defBody s_Host__is_full) (defScope s_Host__is_full) [] [] (pl_Host__is_full.ad K) fd := by
  obtain ⟨fd, F⟩ := W.d_Host__is_full
  refine ⟨fd, F.ok sc_Host__is_full (fun vs H Q E h => ?_) (fun cdv A outer s H vs Q E hr h => ?_), F⟩
  · obtain ⟨B, g, ss, rfl, z1, z2, l1, l2, q⟩ := h; rfl
  · obtain ⟨B, g, ss, rfl, z1, z2, l1, l2, q⟩ := h
    have hu := hu_of hr
    refine ⟨_, PSs.nox (pss_one (ps_ret (pe_or (pe_cmpR op_ge (pe_callB call_len_seq (by rfl) W.f_len boot_len (pa_cons (pe_get W.c_Host W.n_Host__sockets RHost.l_sockets (pv 0)) pa_nil)) (pe_ccon rfl W.g_Host W.r_Host W.k_Host_MOST_SOCKETS) (nomark _)) (pe_one (pe_cmpR op_ge (pe_get W.c_Host W.n_Host_counter RHost.l_counter (pv 0)) (pe_ccon rfl W.g_Host W.r_Host W.k_Host_GREATEST_COUNT) (nomark _)))))), ?_⟩
    walk_at "s"
    exact lk_v q (congrArg V.bl (decide_eq_false (by omega)).symm)
theorem ok_Host__is_full (W : Wld K mg) : MFn P w K mg base (He.ga K "Host") "_is_full" 1 ["self"] [] (spFull K) := by
  obtain ⟨fd, F1, F⟩ := fo_Host__is_full (P := P) (w := w) (base := base) W
  exact ⟨⟨_, fd, [], W.c_Host, W.m_Host__is_full, F1, F.bindsN fun _ _ _ _ _ _ us hl => match us, hl with | [_], _ => rfl, .nil⟩⟩
theorem u_Full {B : HA} {g : HD} {ss : List V} {H : Hp} {Q : VK} (h1 : HAt K H B g) (h2 : H B.S = some (.lst ss)) (l1 : ss.length < 32) (l2 : g.ctr < 4294967295) (q : Q (.bl false) H) : spFull K [.ref B.h] H Q E0 := ⟨B, g, ss, rfl, h1, h2, l1, l2, q⟩
def spPort : Sp := fun vs H Q _ => ∃ p : Int, vs = [.int p] ∧ 1 ≤ p ∧ p ≤ 65535 ∧ Q .non H
abbrev N_check_port : List Str := ["port"]
theorem sc_check_port : FnScope N_check_port ["port"] (defScope s_check_port) := ⟨rfl, rfl, rfl, by decide +kernel, rfl, by decide +kernel, by decide +kernel⟩
theorem fo_check_port (W : Wld K mg) : ∃ fd, FnOk P w K mg base CX0 1 (pl_check_port.ad K) fd ["port"] spPort ∧ FunD K "check_port" "check_port" (defArgs s_check_port) (defBody s_check_port) (defScope s_check_port) [] [] (pl_check_port.ad K) fd := by
  obtain ⟨fd, F⟩ := W.d_check_port
  refine ⟨fd, F.ok sc_check_port (fun vs H Q E h => ?_) (fun cdv A outer s H vs Q E hr h => ?_), F⟩
  · obtain ⟨p, rfl, l1, l2, q⟩ := h; rfl
  · obtain ⟨p, rfl, l1, l2, q⟩ := h
    have hu := hu_of hr
    refine ⟨_, PSs.nox (pss_one (ps_if (pt_not (pt_chain op_le op_le pe_int (pv 0) pe_int)) (pss_one ps_never) pss_nil)), ?_⟩
    walk_at "s"
    exact q
theorem ok_check_port (W : Wld K mg) : GFn P w K mg base "check_port" 1 ["port"] spPort := by
  obtain ⟨fd, F1, F⟩ := fo_check_port (P := P) (w := w) (base := base) W
  exact ⟨⟨_, fd, F1, W.g_check_port, F.kp, F.bindsN fun _ _ _ _ _ _ us hl => match us, hl with | [_], _ => rfl⟩⟩
theorem u_Port {p : Int} {H : Hp} {Q : VK} (l1 : 1 ≤ p) (l2 : p ≤ 65535) (q : Q .non H) : spPort [.int p] H Q E0 := ⟨p, rfl, l1, l2, q⟩
end
end
/-! part D13 -/
section
set_option maxHeartbeats 4000000
open PySem PySem.Spec PyProof.Rows L2 ClX

section
variable {P : Program} [PrOk P] {w : World} {K : PySem.W.Frag} {mg : Str → Option Value} {base : Heap}
theorem u_EndI {p dx oa od : Addr} {o : OptD} {now : Int} {H : Hp} {Q : VK} (h : H p = some (.ins (He.ga K "Endpoint") dx [])) (n : oa ≠ p) (h2 : OAt K H oa od o) (m1 : 0 ≤ o.mss) (m2 : o.mss ≤ 100000) (q : REnd K p oa o now H Q) : spEndI K [.ref p, .ref oa, .int now] H Q E0 := ⟨p, dx, oa, od, o, now, rfl, h, n, h2, m1, m2, q⟩
theorem c_eq3 {p q : Addr} {a b c a' b' c' : Int} {H : Hp} {Q : VK} (h1 : H p = some (.tup [.int a, .int b, .int c])) (h2 : H q = some (.tup [.int a', .int b', .int c'])) (n : a ≠ a') (k : Q (.bl false) H) : rEqD K (.ref p) (.ref q) H Q :=
  ⟨.tuple [.int a, .int b, .int c], .tuple [.int a', .int b', .int c'], .tup (SqT.of h1) (.cons (.int _) (.cons (.int _) (.cons (.int _) .nil))), .tup (SqT.of h2) (.cons (.int _) (.cons (.int _) (.cons (.int _) .nil))), rfl, rfl, lk_v k (by simp [PyData.eqv, PyData.eqvAll, n])⟩
def RConn (K : PySem.W.Frag) (B : HA) (g : HD) (k : SkD) (o : OptD) (ss ps : List V) (H : Hp) (Q : VK) : Prop := ∀ (x : SkA) p dx oc H', x.New H → x.A.Ap → x.s ≠ x.A.e → x.s ≠ x.A.s → H p = none → H oc = none → Kp [B.h, B.S, B.P] H H' → HAt K H' B ⟨g.addr, g.ctr + 1, g.now⟩ → H' B.S = some (.lst (ss ++ [.ref x.s])) → KAt K H' x.s x.sd x.A.e k → EndOK K H' B.oa o x.A (dS o g.now) → H' B.P = some (.lst (ps ++ [.ref p])) → PkOK K H' p dx oc g.addr k.peer (enc g.addr k.peer (segO k o g.now)) → Q (.int k.cnt) H'
def spConnect (K : PySem.W.Frag) : Sp := fun vs H Q _ => ∃ (B : HA) (g : HD) (o : OptD) (l : List (SkA × SkD)) (ps : List V) (port peer pp : Int), vs = [.ref B.h, .int port, .int peer, .int pp] ∧ HAt K H B g ∧ B.Ap ∧ (∃ u, H B.L = some u) ∧ OAt K H B.oa B.od o ∧ o.Ok ∧ H B.S = some (.lst (l.map fun y => .ref y.1.s)) ∧ l.length < 30 ∧ g.ctr < 1000 ∧ H B.P = some (.lst ps) ∧ ps.length ≤ 1000 ∧
  (1 ≤ port ∧ port ≤ 65535 ∧ 1 ≤ pp ∧ pp ≤ 65535) ∧ peer ≠ g.addr ∧ SksAt K H l ∧ (∀ y ∈ l, y.2.port ≠ port) ∧ RConn K B g ⟨g.ctr + 1, port, peer, pp⟩ o (l.map fun y => .ref y.1.s) ps H Q
local macro_rules | `(tactic| walk_at "s1") => `(tactic| first
  | (show spPort _ _ _ _; refine u_Port (by omega) (by omega) ?_)
  | (show spFull _ _ _ _ _; refine' u_Full ?k1 ?k2 ?k3 ?k4 ?k5; (case k1 => walk_at "look"); (case k2 => walk_at "look"); (case k3 => simp only [List.length_map]; omega); (case k4 => omega))
  | (show spEndI _ _ _ _ _; refine' u_EndI ?k1 ?k2 ?k3 ?k4 ?k5 ?k6; (case k1 => walk_at "look"); (case k3 => walk_at "look"); (case k2 => walk_at "ne"); (case k4 => omega); (case k5 => omega))
  | (show spSocketI _ _ _ _ _; refine' u_SocketI ?k1 ?k2; (case k1 => walk_at "look"))
  | ((with_reducible refine' c_eq3 ?k1 ?k2 ?k3 ?k4); (case k1 => walk_at "look"); (case k2 => walk_at "look"); (case k3 => assumption)))
abbrev N_Host_connect : List Str := ["self", "port", "peer", "peer_port", "sock", "end"]
theorem sc_Host_connect : FnScope N_Host_connect ["self", "port", "peer", "peer_port"] (defScope s_Host_connect) := ⟨rfl, rfl, rfl, by decide +kernel, rfl, by decide +kernel, by decide +kernel⟩
theorem fo_Host_connect (W : Wld K mg) : ∃ fd, FnOk P w K mg base CX0 15 (pl_Host_connect.ad K) fd ["self", "port", "peer", "peer_port"] (spConnect K) ∧ FunD K "connect" "Host.connect" (defArgs s_Host_connect) (defBody s_Host_connect) (defScope s_Host_connect) [] [] (pl_Host_connect.ad K) fd := by
  obtain ⟨fd, F⟩ := W.d_Host_connect
  refine ⟨fd, F.ok sc_Host_connect (fun vs H Q E h => ?_) (fun cdv A outer s H vs Q E hr h => ?_), F⟩
  · obtain ⟨B, g, o, l, ps, port, peer, pp, rfl, z1, ba, ⟨uL, zL⟩, z2, ok, z3, l3, lc, z4, l4, ⟨p1, p2, p3, p4⟩, np, z5, nq, q⟩ := h; rfl
  · obtain ⟨B, g, o, l, ps, port, peer, pp, rfl, z1, ba, ⟨uL, zL⟩, z2, ok, z3, l3, lc, z4, l4, ⟨p1, p2, p3, p4⟩, np, z5, nq, q⟩ := h
    have hu := hu_of hr
    refine ⟨_, PSs.nox (pss_cons (ps_expr (pe_fn (ok_check_port (P := P) (K := K) W) (hr.mono (by decide)) (by rfl) (pa_cons (pv 1) pa_nil)))
      (pss_cons (ps_expr (pe_fn (ok_check_port (P := P) (K := K) W) (hr.mono (by decide)) (by rfl) (pa_cons (pv 3) pa_nil)))
      (pss_cons (ps_if (pt_val (pe_mt0 (ok_Host__is_full (P := P) (K := K) W) (hr.mono (by decide)) (pv 0))) (pss_one ps_never) pss_nil)
      (pss_cons (ps_if (PW.pt (pw_and (pt_cmpR op_eq (pv 2) (pe_get W.c_Host W.n_Host_address RHost.l_address (pv 0)) (nomark _)) (pw_and1 (pt_cmpR op_eq (pv 3) (pv 1) (nomark _))))) (pss_one ps_never) pss_nil)
      (pss_cons (ps_for PassesOwn.never rfl (pi_list (pe_get W.c_Host W.n_Host__sockets RHost.l_sockets (pv 0))) (pg_name (i := 4) sc_Host_connect.nd rfl (Or.inl rfl)) (pss_one (ps_if (PW.pt (pw_and (pt_cmpR (op_eqD hr.units) (pe_tup (pa_cons (pe_get W.c_Socket W.n_Socket_port RSocket.l_port (pv 4)) (pa_cons (pe_get W.c_Socket W.n_Socket_peer RSocket.l_peer (pv 4)) (pa_cons (pe_get W.c_Socket W.n_Socket_peer_port RSocket.l_peer_port (pv 4)) pa_nil)))) (pe_tup (pa_cons (pv 1) (pa_cons (pv 2) (pa_cons (pv 3) pa_nil)))) (nomark _)) (pw_and1 (pt_not (pt_val (pe_pr (ok_Endpoint_has_ended (P := P) (K := K) W) (hr.mono (by decide)) (pe_get W.c_Socket W.n_Socket_endpoint RSocket.l_endpoint (pv 4)) rfl)))))) (pss_one ps_never) pss_nil)))
      (pss_cons (ps_set (i := 5) sc_Host_connect.nd rfl (Or.inl rfl) (pe_mk (ok_Endpoint_make (P := P) (K := K) W) (hr.mono (by decide)) (by rfl) (pa_cons (pe_get W.c_Host W.n_Host_options RHost.l_options (pv 0)) (pa_cons (pe_get W.c_Host W.n_Host_now RHost.l_now (pv 0)) pa_nil))))
      (pss_one (ps_ret (pe_mt (ok_Host__add (P := P) (K := K) W) (hr.mono (by decide)) (pv 0) (pa_cons (pe_mk (ok_Socket_make (P := P) (K := K) W) (hr.mono (by decide)) (by rfl) (pa_cons (pe_op op_add (pe_get W.c_Host W.n_Host_counter RHost.l_counter (pv 0)) pe_int) (pa_cons (pv 1) (pa_cons (pv 2) (pa_cons (pv 3) (pa_cons (pv 5) pa_nil)))))) pa_nil)))))))))), ?_⟩
    have ok2 := ok
    obtain ⟨m1, m2, r1, r2, _, _, _, _, _, _, _, _, _, _, _, _, _⟩ := ok2
    walk_at "s"
    refine br_f (decide_eq_false (fun e : V.int peer = V.int g.addr => np (by simpa using e))) ?_
    walk_at "s"
    refine c_loopL (xs := l.map fun y => .ref y.1.s) (fun i σ H' => (∃ v, σ = [some (.ref B.h), some (.int port), some (.int peer), some (.int pp), v, none]) ∧ Same H H') ?_ ?_ ?_ ?_
    · exact ⟨⟨none, rfl⟩, by walk_at "same"⟩
    · rintro i σ H' ⟨_, e⟩
      walk_at "look"
    · rintro i v σ H' hv ⟨⟨u, rfl⟩, e⟩
      rw [List.getElem?_map] at hv
      cases hy : l[i]? with
      | none => rw [hy] at hv; cases hv
      | some y =>
        rw [hy] at hv
        have ev : V.ref y.1.s = v := Option.some.inj hv
        subst ev
        have hm := List.mem_of_getElem? hy
        have z6 := z5 y hm
        have n6 := nq y hm
        walk_at "s"
        exact ⟨⟨_, rfl⟩, by walk_at "same"⟩
    · rintro σ H' ⟨⟨u, rfl⟩, e⟩
      walk_at "s"
      intro A2 H2 eA anew ap e2 ok2
      subst eA
      obtain ⟨w3, w4, w5, w6, w7, w8, w9, w10⟩ := anew
      obtain ⟨x1, x2, x3, x4, x5, x6, x7, x8, x9⟩ := ok2
      walk_at "s"
      rename_i dA fA fdA nA px pd fpx fpd npx H3 e3 h3
      refine u_Add H (x := ⟨px, pd, A2⟩) (B := B) (g := g) (k := ⟨g.ctr + 1, port, peer, pp⟩) (o := o) (ss := l.map fun y => .ref y.1.s) (ps := ps) (by walk_at "look") ba ⟨⟨_, z1⟩, ⟨_, z3⟩, ⟨_, z4⟩, ⟨_, z2⟩, ⟨_, zL⟩⟩ ⟨by walk_at "fresh", by walk_at "fresh", ⟨by walk_at "fresh", by walk_at "fresh", by walk_at "fresh", by walk_at "fresh", by walk_at "fresh", by walk_at "fresh", by walk_at "fresh", by walk_at "fresh"⟩⟩ (by walk_at "look") (by walk_at "ne") (by walk_at "ne") ⟨(by walk_at "look"), (by walk_at "look"), (by walk_at "look"), (by walk_at "look"), (by walk_at "look"), (by walk_at "look"), (by walk_at "look"), (by walk_at "look"), (by walk_at "look")⟩ ap (by walk_at "look") ok (by walk_at "look") (by simp only [List.length_map]; omega) (by walk_at "look") l4 ?_
      intro p dx oc H4 fp foc e4 hB hS hE hs hP pk
      have ap2 := ap
      obtain ⟨c1, c2, c3, c4, c5, c6, c7, c8, b1, b2, b3, b4, b5, b6, b7⟩ := ap2
      exact q ⟨px, pd, A2⟩ p dx oc H4 ⟨by walk_at "fresh", by walk_at "fresh", ⟨by walk_at "fresh", by walk_at "fresh", by walk_at "fresh", by walk_at "fresh", by walk_at "fresh", by walk_at "fresh", by walk_at "fresh", by walk_at "fresh"⟩⟩ ap (by walk_at "ne") (by walk_at "ne") (by walk_at "fresh") (by walk_at "fresh") (by walk_at "kp") hB hS (by walk_at "look") ⟨hE, hs, by walk_at "look", by walk_at "look", by walk_at "look", by walk_at "rl", by walk_at "look", by walk_at "look", by walk_at "look"⟩ hP pk
theorem ok_Host_connect (W : Wld K mg) : MFn P w K mg base (He.ga K "Host") "connect" 15 ["self", "port", "peer", "peer_port"] [] (spConnect K) := by
  obtain ⟨fd, F1, F⟩ := fo_Host_connect (P := P) (w := w) (base := base) W
  exact ⟨⟨_, fd, [], W.c_Host, W.m_Host_connect, F1, F.bindsN fun _ _ _ _ _ _ us hl => match us, hl with | [_, _, _, _], _ => rfl, .nil⟩⟩
theorem u_Connect {B : HA} {g : HD} {o : OptD} {l : List (SkA × SkD)} {ps : List V} {port peer pp : Int} {H : Hp} {Q : VK} (h1 : HAt K H B g) (ba : B.Ap) (hL : ∃ u, H B.L = some u) (h2 : OAt K H B.oa B.od o) (ok : o.Ok) (h3 : H B.S = some (.lst (l.map fun y => .ref y.1.s))) (l3 : l.length < 30) (lc : g.ctr < 1000) (h4 : H B.P = some (.lst ps)) (l4 : ps.length ≤ 1000)
    (hp : 1 ≤ port ∧ port ≤ 65535 ∧ 1 ≤ pp ∧ pp ≤ 65535) (np : peer ≠ g.addr) (h5 : SksAt K H l) (nq : ∀ y ∈ l, y.2.port ≠ port) (q : RConn K B g ⟨g.ctr + 1, port, peer, pp⟩ o (l.map fun y => .ref y.1.s) ps H Q) : spConnect K [.ref B.h, .int port, .int peer, .int pp] H Q E0 :=
  ⟨B, g, o, l, ps, port, peer, pp, rfl, h1, ba, hL, h2, ok, h3, l3, lc, h4, l4, hp, np, h5, nq, q⟩
end
end
/-! part D14 -/
section
set_option maxHeartbeats 4000000
open PySem PySem.Spec PyProof.Rows L2 ClX

section
variable {P : Program} [PrOk P] {w : World} {K : PySem.W.Frag} {mg : Str → Option Value} {base : Heap}
/-- a host that knows a socket x with data d -/
structure HxOK (K : PySem.W.Frag) (H : Hp) (B : HA) (g : HD) (o : OptD) (l : List (SkA × SkD)) (x : SkA × SkD) (d : EndD) : Prop where
  h : HAt K H B g
  S : H B.S = some (.lst (l.map fun y => .ref y.1.s))
  ks : SksAt K H l
  mem : x ∈ l
  uni : ∀ y ∈ l, y.2.cnt = x.2.cnt → y.1.s = x.1.s
  oa : OAt K H B.oa B.od o
  E : EndOK K H B.oa o x.1.A d
  ap : x.1.A.Ap
  nx : d.nxt = 1
  al : ∃ z, d.alarm = .int z
  n1 : B.h ≠ x.1.A.e
  n2 : B.h ≠ x.1.A.s
  n3 : x.1.s ≠ x.1.A.e
  n4 : x.1.s ≠ x.1.A.s
  n5 : B.oa ≠ x.1.A.e
  n6 : B.oa ≠ x.1.A.s
def RHW (K : PySem.W.Frag) (B : HA) (o : OptD) (A : EA) (d : EndD) (ns : List Int) (H : Hp) (Q : VK) : Prop := ∀ q' H', H q' = none → Kp [A.s] H H' → EndOK K H' B.oa o (A.setq q') (d.put o ns) → Q (.int (d.tk o ns)) H'
def spHWrite (K : PySem.W.Frag) : Sp := fun vs H Q _ => ∃ (B : HA) (g : HD) (o : OptD) (l : List (SkA × SkD)) (x : SkA × SkD) (d : EndD) (a : Addr) (ns : List Int), vs = [.ref B.h, .int x.2.cnt, .ref a] ∧ HxOK K H B g o l x d ∧ d.ab = false ∧ d.fin = false ∧ H a = some (.lst (nis ns)) ∧ d.octs.length ≤ 900 ∧ ns.length ≤ 100 ∧ RHW K B o x.1.A d ns H Q
local macro_rules | `(tactic| walk_at "s1") => `(tactic| first
  | (show spHasEnded _ _ _ _ _; refine' u_HasEnded ?k1 ?k2; (case k1 => walk_at "look")))
abbrev N_Host_write : List Str := ["self", "socket", "octets", "sock", "taken"]
theorem sc_Host_write : FnScope N_Host_write ["self", "socket", "octets"] (defScope s_Host_write) := ⟨rfl, rfl, rfl, by decide +kernel, rfl, by decide +kernel, by decide +kernel⟩
theorem fo_Host_write (W : Wld K mg) : ∃ fd, FnOk P w K mg base CX0 15 (pl_Host_write.ad K) fd ["self", "socket", "octets"] (spHWrite K) ∧ FunD K "write" "Host.write" (defArgs s_Host_write) (defBody s_Host_write) (defScope s_Host_write) [] [] (pl_Host_write.ad K) fd := by
  obtain ⟨fd, F⟩ := W.d_Host_write
  refine ⟨fd, F.ok sc_Host_write (fun vs H Q E h => ?_) (fun cdv A outer s H vs Q E hr h => ?_), F⟩
  · obtain ⟨B, g, o, l, x, d, a, ns, rfl, ⟨z1, z2, z3, hx, un, z4, ⟨x1, x2, x3, x4, x5, x6, x7, x8, x9⟩, ap, hn, ⟨z, ha⟩, n1, n2, n3, n4, n5, n6⟩, hb, hf, z5, l1, l2, q⟩ := h; rfl
  · obtain ⟨B, g, o, l, x, d, a, ns, rfl, ⟨z1, z2, z3, hx, un, z4, ⟨x1, x2, x3, x4, x5, x6, x7, x8, x9⟩, ap, hn, ⟨z, ha⟩, n1, n2, n3, n4, n5, n6⟩, hb, hf, z5, l1, l2, q⟩ := h
    have hu := hu_of hr
    refine ⟨_, PSs.nox (pss_cons (ps_set (i := 3) sc_Host_write.nd rfl (Or.inl rfl) (pe_mt (ok_Host__known (P := P) (K := K) W) (hr.mono (by decide)) (pv 0) (pa_cons (pv 1) pa_nil)))
      (pss_cons (ps_if (pt_val (pe_pr (ok_Endpoint_has_ended (P := P) (K := K) W) (hr.mono (by decide)) (pe_get W.c_Socket W.n_Socket_endpoint RSocket.l_endpoint (pv 3)) rfl)) (pss_one ps_never) pss_nil)
      (pss_cons (ps_if (pt_val (pe_get W.c_Sender W.n_Sender_finished RSender.l_finished (pe_get W.c_Endpoint W.n_Endpoint_sender REndpoint.l_sender (pe_get W.c_Socket W.n_Socket_endpoint RSocket.l_endpoint (pv 3))))) (pss_one ps_never) pss_nil)
      (pss_cons (ps_set (i := 4) sc_Host_write.nd rfl (Or.inl rfl) (pe_mt (ok_Endpoint_write (P := P) (K := K) W) (hr.mono (by decide)) (pe_get W.c_Socket W.n_Socket_endpoint RSocket.l_endpoint (pv 3)) (pa_cons (pv 2) pa_nil)))
      (pss_cons (ps_expr (pe_mt (ok_Host__send (P := P) (K := K) W) (hr.mono (by decide)) (pv 0) (pa_cons (pv 3) pa_nil)))
      (pss_one (ps_ret (pv 4)))))))), ?_⟩
    have ap2 := ap
    obtain ⟨c1, c2, c3, c4, c5, c6, c7, c8, b1, b2, b3, b4, b5, b6, b7⟩ := ap2
    have z6 := z3 x hx
    walk_at "s"
    refine u_Find z1 z2 z3 hx un ?_
    walk_at "s"
    refine br_f hb ?_
    walk_at "s"
    refine br_f hf ?_
    walk_at "s"
    refine u_EWrite hb x1 x2 x6 b4 z5 (by omega) (by omega) ?_
    intro q' H1 fq e1 s1 hq1
    walk_at "s"
    refine u_HSend1 (B := B) (g := g) (x := ⟨x.1.s, x.1.sd, x.1.A.setq q'⟩) (k := x.2) (o := o) (d := d.put o ns) (z := z) (by walk_at "look") (by walk_at "look") (by walk_at "ins") s1 (by walk_at "look") (by walk_at "look") hq1 (by walk_at "look") (.inr hn) ha ?_
    walk_at "s"
    rename_i H2 e2
    exact q q' H2 fq (by walk_at "kp") ⟨by walk_at "ins", by walk_at "look", by walk_at "look", by walk_at "look", by walk_at "look", by walk_at "look", by walk_at "look", by walk_at "look", by walk_at "look"⟩
theorem ok_Host_write (W : Wld K mg) : MFn P w K mg base (He.ga K "Host") "write" 15 ["self", "socket", "octets"] [] (spHWrite K) := by
  obtain ⟨fd, F1, F⟩ := fo_Host_write (P := P) (w := w) (base := base) W
  exact ⟨⟨_, fd, [], W.c_Host, W.m_Host_write, F1, F.bindsN fun _ _ _ _ _ _ us hl => match us, hl with | [_, _, _], _ => rfl, .nil⟩⟩
theorem u_HWrite {B : HA} {g : HD} {o : OptD} {l : List (SkA × SkD)} {x : SkA × SkD} {d : EndD} {a : Addr} {ns : List Int} {H : Hp} {Q : VK} (h : HxOK K H B g o l x d) (hb : d.ab = false) (hf : d.fin = false) (ha : H a = some (.lst (nis ns))) (l1 : d.octs.length ≤ 900) (l2 : ns.length ≤ 100) (q : RHW K B o x.1.A d ns H Q) : spHWrite K [.ref B.h, .int x.2.cnt, .ref a] H Q E0 := ⟨B, g, o, l, x, d, a, ns, rfl, h, hb, hf, ha, l1, l2, q⟩
def RHF (K : PySem.W.Frag) (B : HA) (o : OptD) (A : EA) (d : EndD) (H : Hp) (Q : VK) : Prop := ∀ H', Kp [A.e, A.s] H H' → EndOK K H' B.oa o A d → Q (.bl true) H'
def spHFinish (K : PySem.W.Frag) : Sp := fun vs H Q _ => ∃ (B : HA) (g : HD) (o : OptD) (l : List (SkA × SkD)) (x : SkA × SkD) (d : EndD), vs = [.ref B.h, .int x.2.cnt] ∧ HxOK K H B g o l x d ∧ d.ab = false ∧ d.fin = false ∧ RHF K B o x.1.A { d with fin := true } H Q
abbrev N_Host_finish : List Str := ["self", "socket", "sock"]
theorem sc_Host_finish : FnScope N_Host_finish ["self", "socket"] (defScope s_Host_finish) := ⟨rfl, rfl, rfl, by decide +kernel, rfl, by decide +kernel, by decide +kernel⟩
theorem fo_Host_finish (W : Wld K mg) : ∃ fd, FnOk P w K mg base CX0 15 (pl_Host_finish.ad K) fd ["self", "socket"] (spHFinish K) ∧ FunD K "finish" "Host.finish" (defArgs s_Host_finish) (defBody s_Host_finish) (defScope s_Host_finish) [] [] (pl_Host_finish.ad K) fd := by
  obtain ⟨fd, F⟩ := W.d_Host_finish
  refine ⟨fd, F.ok sc_Host_finish (fun vs H Q E h => ?_) (fun cdv A outer s H vs Q E hr h => ?_), F⟩
  · obtain ⟨B, g, o, l, x, d, rfl, ⟨z1, z2, z3, hx, un, z4, ⟨x1, x2, x3, x4, x5, x6, x7, x8, x9⟩, ap, hn, ⟨z, ha⟩, n1, n2, n3, n4, n5, n6⟩, hb, hf, q⟩ := h; rfl
  · obtain ⟨B, g, o, l, x, d, rfl, ⟨z1, z2, z3, hx, un, z4, ⟨x1, x2, x3, x4, x5, x6, x7, x8, x9⟩, ap, hn, ⟨z, ha⟩, n1, n2, n3, n4, n5, n6⟩, hb, hf, q⟩ := h
    have hu := hu_of hr
    refine ⟨_, PSs.nox (pss_cons (ps_set (i := 2) sc_Host_finish.nd rfl (Or.inl rfl) (pe_mt (ok_Host__known (P := P) (K := K) W) (hr.mono (by decide)) (pv 0) (pa_cons (pv 1) pa_nil)))
      (pss_cons (ps_if (pt_val (pe_pr (ok_Endpoint_has_ended (P := P) (K := K) W) (hr.mono (by decide)) (pe_get W.c_Socket W.n_Socket_endpoint RSocket.l_endpoint (pv 2)) rfl)) (pss_one ps_never) pss_nil)
      (pss_cons (ps_if (pt_val (pe_get W.c_Sender W.n_Sender_finished RSender.l_finished (pe_get W.c_Endpoint W.n_Endpoint_sender REndpoint.l_sender (pe_get W.c_Socket W.n_Socket_endpoint RSocket.l_endpoint (pv 2))))) (pss_one (ps_ret pe_bl)) pss_nil)
      (pss_cons (ps_expr (pe_mt0 (ok_Endpoint_finish (P := P) (K := K) W) (hr.mono (by decide)) (pe_get W.c_Socket W.n_Socket_endpoint RSocket.l_endpoint (pv 2))))
      (pss_cons (ps_expr (pe_mt (ok_Host__send (P := P) (K := K) W) (hr.mono (by decide)) (pv 0) (pa_cons (pv 2) pa_nil)))
      (pss_one (ps_ret pe_bl))))))), ?_⟩
    have ap2 := ap
    obtain ⟨c1, c2, c3, c4, c5, c6, c7, c8, b1, b2, b3, b4, b5, b6, b7⟩ := ap2
    have z6 := z3 x hx
    walk_at "s"
    refine u_Find z1 z2 z3 hx un ?_
    walk_at "s"
    refine br_f hb ?_
    walk_at "s"
    refine br_f hf ?_
    walk_at "s"
    refine u_EFinish hb hf x1 x2 x3 b1 c1 ?_
    intro H1 e1 h1 s1
    walk_at "s"
    refine u_HSend1 (B := B) (g := g) (x := x.1) (k := x.2) (o := o) (d := { d with fin := true }) (z := z) (by walk_at "look") (by walk_at "look") h1 s1 (by walk_at "look") (by walk_at "look") (by walk_at "look") (by walk_at "look") (.inr hn) ha ?_
    walk_at "s"
    rename_i H2 e2
    exact q H2 (by walk_at "kp") ⟨by walk_at "look", by walk_at "look", by walk_at "look", by walk_at "look", by walk_at "look", by walk_at "look", by walk_at "look", by walk_at "look", by walk_at "look"⟩
theorem ok_Host_finish (W : Wld K mg) : MFn P w K mg base (He.ga K "Host") "finish" 15 ["self", "socket"] [] (spHFinish K) := by
  obtain ⟨fd, F1, F⟩ := fo_Host_finish (P := P) (w := w) (base := base) W
  exact ⟨⟨_, fd, [], W.c_Host, W.m_Host_finish, F1, F.bindsN fun _ _ _ _ _ _ us hl => match us, hl with | [_, _], _ => rfl, .nil⟩⟩
theorem u_HFinish {B : HA} {g : HD} {o : OptD} {l : List (SkA × SkD)} {x : SkA × SkD} {d : EndD} {H : Hp} {Q : VK} (h : HxOK K H B g o l x d) (hb : d.ab = false) (hf : d.fin = false) (q : RHF K B o x.1.A { d with fin := true } H Q) : spHFinish K [.ref B.h, .int x.2.cnt] H Q E0 := ⟨B, g, o, l, x, d, rfl, h, hb, hf, q⟩
def spHAbort (K : PySem.W.Frag) : Sp := fun vs H Q _ => ∃ (B : HA) (g : HD) (o : OptD) (l : List (SkA × SkD)) (x : SkA × SkD) (d : EndD), vs = [.ref B.h, .int x.2.cnt] ∧ HxOK K H B g o l x d ∧ d.ab = false ∧ RHF K B o x.1.A { d with ab := true } H Q
abbrev N_Host_abort : List Str := ["self", "socket", "sock"]
theorem sc_Host_abort : FnScope N_Host_abort ["self", "socket"] (defScope s_Host_abort) := ⟨rfl, rfl, rfl, by decide +kernel, rfl, by decide +kernel, by decide +kernel⟩
theorem fo_Host_abort (W : Wld K mg) : ∃ fd, FnOk P w K mg base CX0 15 (pl_Host_abort.ad K) fd ["self", "socket"] (spHAbort K) ∧ FunD K "abort" "Host.abort" (defArgs s_Host_abort) (defBody s_Host_abort) (defScope s_Host_abort) [] [] (pl_Host_abort.ad K) fd := by
  obtain ⟨fd, F⟩ := W.d_Host_abort
  refine ⟨fd, F.ok sc_Host_abort (fun vs H Q E h => ?_) (fun cdv A outer s H vs Q E hr h => ?_), F⟩
  · obtain ⟨B, g, o, l, x, d, rfl, ⟨z1, z2, z3, hx, un, z4, ⟨x1, x2, x3, x4, x5, x6, x7, x8, x9⟩, ap, hn, ⟨z, ha⟩, n1, n2, n3, n4, n5, n6⟩, hb, q⟩ := h; rfl
  · obtain ⟨B, g, o, l, x, d, rfl, ⟨z1, z2, z3, hx, un, z4, ⟨x1, x2, x3, x4, x5, x6, x7, x8, x9⟩, ap, hn, ⟨z, ha⟩, n1, n2, n3, n4, n5, n6⟩, hb, q⟩ := h
    have hu := hu_of hr
    refine ⟨_, PSs.nox (pss_cons (ps_set (i := 2) sc_Host_abort.nd rfl (Or.inl rfl) (pe_mt (ok_Host__known (P := P) (K := K) W) (hr.mono (by decide)) (pv 0) (pa_cons (pv 1) pa_nil)))
      (pss_cons (ps_if (pt_val (pe_pr (ok_Endpoint_has_ended (P := P) (K := K) W) (hr.mono (by decide)) (pe_get W.c_Socket W.n_Socket_endpoint RSocket.l_endpoint (pv 2)) rfl)) (pss_one (ps_ret pe_bl)) pss_nil)
      (pss_cons (ps_expr (pe_mt0 (ok_Endpoint_abort (P := P) (K := K) W) (hr.mono (by decide)) (pe_get W.c_Socket W.n_Socket_endpoint RSocket.l_endpoint (pv 2))))
      (pss_cons (ps_expr (pe_mt (ok_Host__send (P := P) (K := K) W) (hr.mono (by decide)) (pv 0) (pa_cons (pv 2) pa_nil)))
      (pss_one (ps_ret pe_bl)))))), ?_⟩
    have ap2 := ap
    obtain ⟨c1, c2, c3, c4, c5, c6, c7, c8, b1, b2, b3, b4, b5, b6, b7⟩ := ap2
    have z6 := z3 x hx
    walk_at "s"
    refine u_Find z1 z2 z3 hx un ?_
    walk_at "s"
    refine br_f hb ?_
    walk_at "s"
    refine u_EAbort hb x1 ?_
    intro H1 e1 h1
    walk_at "s"
    refine u_HSend1 (B := B) (g := g) (x := x.1) (k := x.2) (o := o) (d := { d with ab := true }) (z := z) (by walk_at "look") (by walk_at "look") h1 (by walk_at "look") (by walk_at "look") (by walk_at "look") (by walk_at "look") (by walk_at "look") (.inl rfl) ha ?_
    walk_at "s"
    rename_i H2 e2
    exact q H2 (by walk_at "kp") ⟨by walk_at "look", by walk_at "look", by walk_at "look", by walk_at "look", by walk_at "look", by walk_at "look", by walk_at "look", by walk_at "look", by walk_at "look"⟩
theorem ok_Host_abort (W : Wld K mg) : MFn P w K mg base (He.ga K "Host") "abort" 15 ["self", "socket"] [] (spHAbort K) := by
  obtain ⟨fd, F1, F⟩ := fo_Host_abort (P := P) (w := w) (base := base) W
  exact ⟨⟨_, fd, [], W.c_Host, W.m_Host_abort, F1, F.bindsN fun _ _ _ _ _ _ us hl => match us, hl with | [_, _], _ => rfl, .nil⟩⟩
theorem u_HAbort {B : HA} {g : HD} {o : OptD} {l : List (SkA × SkD)} {x : SkA × SkD} {d : EndD} {H : Hp} {Q : VK} (h : HxOK K H B g o l x d) (hb : d.ab = false) (q : RHF K B o x.1.A { d with ab := true } H Q) : spHAbort K [.ref B.h, .int x.2.cnt] H Q E0 := ⟨B, g, o, l, x, d, rfl, h, hb, q⟩
end
end
/-! part D15 -/
section
set_option maxHeartbeats 4000000
open PySem PySem.Spec PyProof.Rows L2 ClX

section
variable {P : Program} [PrOk P] {w : World} {K : PySem.W.Frag} {mg : Str → Option Value} {base : Heap}
theorem c_din {td ty : TE} {σ : L2.St} {H : Hp} {Q : VK} (h : ty σ H fun y H1 => td σ H1 fun x H2 => ∃ a o, x = .ref a ∧ DGet H2 a y o ∧ Q (.bl o.isSome) H2) : tDIn ty td σ H Q := h
theorem c_dinI {a : Addr} {kvs : List (Key × V)} {z : Int} {H : Hp} {Rq : Option V → Prop} (h : H a = some (.dK kvs)) (k : Rq (valV kvs (Sum.inl z))) : ∃ a' o, V.ref a = .ref a' ∧ DGet H a' (.int z) o ∧ Rq o := ⟨a, _, rfl, DGet.k (k := Sum.inl z) h, k⟩
/-- listeners -/
abbrev lsV (ls : List (Int × Int)) : List (Key × V) := ls.map fun p => (Sum.inl p.1, V.int p.2)
theorem lsV_none {z : Int} : ∀ {ls : List (Int × Int)}, (∀ p ∈ ls, p.1 ≠ z) → valV (lsV ls) (Sum.inl z) = none
  | [], _ => rfl
  | p :: r, h => by
    rw [show lsV (p :: r) = (Sum.inl p.1, V.int p.2) :: lsV r from rfl, valV_neg (by intro e; exact h p (List.mem_cons_self ..) (Sum.inl.inj e))]
    exact lsV_none fun q hq => h q (List.mem_cons_of_mem _ hq)
theorem lsV_put {z b : Int} {ls : List (Int × Int)} (h : ∀ p ∈ ls, p.1 ≠ z) : putK (lsV ls) (Sum.inl z) (V.int b) = lsV (ls ++ [(z, b)]) := by
  have e : ((lsV ls).any fun kv => decide (kv.1 = Sum.inl z)) = false := by
    rw [List.any_eq_false]
    intro kv hkv
    obtain ⟨p, hp, rfl⟩ := List.mem_map.mp hkv
    simpa using h p hp
  unfold putK
  rw [if_neg (by rw [e]; exact Bool.false_ne_true)]
  simp
def spListen (K : PySem.W.Frag) : Sp := fun vs H Q _ => ∃ (B : HA) (g : HD) (ls : List (Int × Int)) (p b : Int), vs = [.ref B.h, .int p, .int b] ∧ HAt K H B g ∧ H B.L = some (.dK (lsV ls)) ∧ ls.length ≤ 1000 ∧ 1 ≤ p ∧ p ≤ 65535 ∧ 1 ≤ b ∧ b ≤ 32 ∧ (∀ q ∈ ls, q.1 ≠ p) ∧ Q .non (upd H B.L (.dK (lsV (ls ++ [(p, b)]))))
local macro_rules | `(tactic| walk_at "s1") => `(tactic| first
  | (with_reducible refine c_din ?_)
  | ((with_reducible refine' c_dinI ?k1 ?k2); (case k1 => walk_at "look"))
  | (show spPort _ _ _ _; refine u_Port (by omega) (by omega) ?_))
abbrev N_Host_listen : List Str := ["self", "port", "backlog"]
theorem sc_Host_listen : FnScope N_Host_listen ["self", "port", "backlog"] (defScope s_Host_listen) := ⟨rfl, rfl, rfl, by decide +kernel, rfl, by decide +kernel, by decide +kernel⟩
theorem fo_Host_listen (W : Wld K mg) : ∃ fd, FnOk P w K mg base CX0 3 (pl_Host_listen.ad K) fd ["self", "port", "backlog"] (spListen K) ∧ FunD K "listen" "Host.listen" (defArgs s_Host_listen) (defBody s_Host_listen) (defScope s_Host_listen) [] [("backlog", V.int 8)] (pl_Host_listen.ad K) fd := by
  obtain ⟨fd, F⟩ := W.d_Host_listen
  refine ⟨fd, F.ok sc_Host_listen (fun vs H Q E h => ?_) (fun cdv A outer s H vs Q E hr h => ?_), F⟩
  · obtain ⟨B, g, ls, p, b, rfl, z1, z2, l1, l2, l3, l4, l5, hn, q⟩ := h; rfl
  · obtain ⟨B, g, ls, p, b, rfl, z1, z2, l1, l2, l3, l4, l5, hn, q⟩ := h
    have hu := hu_of hr
    refine ⟨_, PSs.nox (pss_cons (ps_expr (pe_fn (ok_check_port (P := P) (K := K) W) (hr.mono (by decide)) (by rfl) (pa_cons (pv 1) pa_nil)))
      (pss_cons (ps_if (pt_not (pt_chain op_le op_le pe_int (pv 2) pe_int)) (pss_one ps_never) pss_nil)
      (pss_cons (ps_if (pt_cmp (pc_din hu (pv 1) (pe_get W.c_Host W.n_Host__listeners RHost.l_listeners (pv 0)))) (pss_one ps_never) pss_nil)
      (pss_one (ps_dput hu (pe_get W.c_Host W.n_Host__listeners RHost.l_listeners (pv 0)) (pv 1) (pv 2) rfl))))), ?_⟩
    walk_at "s"
    refine br_f (by rw [lsV_none hn]; rfl) ?_
    walk_at "s"
    rw [← lsV_put hn] at q
    exact q
theorem ok_Host_listen_k (W : Wld K mg) : MFnK P w K mg base (He.ga K "Host") "listen" 3 ["self", "port", "backlog"] 2 ["backlog"] (fun vs zs => vs ++ zs) (spListen K) := by
  obtain ⟨fd, F1, F⟩ := fo_Host_listen (P := P) (w := w) (base := base) W
  have hb := kbAll F (ps := ["self", "port", "backlog"]) 2 ["backlog"] (fun kV doc pm an cdv ct us ws l1 l2 => match us, l1, ws, l2 with | [_, _], _, [_], _ => by kernel_rfl)
  exact ⟨⟨_, fd, _, W.c_Host, W.m_Host_listen, F1, hb⟩⟩
theorem u_Listen {B : HA} {g : HD} {ls : List (Int × Int)} {p b : Int} {H : Hp} {Q : VK} (h1 : HAt K H B g) (h2 : H B.L = some (.dK (lsV ls))) (l1 : ls.length ≤ 1000) (l2 : 1 ≤ p) (l3 : p ≤ 65535) (l4 : 1 ≤ b) (l5 : b ≤ 32) (hn : ∀ q ∈ ls, q.1 ≠ p) (q : Q .non (upd H B.L (.dK (lsV (ls ++ [(p, b)]))))) : spListen K [.ref B.h, .int p, .int b] H Q E0 := ⟨B, g, ls, p, b, rfl, h1, h2, l1, l2, l3, l4, l5, hn, q⟩
def RHost1 (K : PySem.W.Frag) (B : HA) (g : HD) (H : Hp) (Q : VK) : Prop := ∀ H', Kp [B.h] H H' → HAt K H' B g → Q .non H'
/-- the clock, with no sockets -/
def spTick (K : PySem.W.Frag) : Sp := fun vs H Q _ => ∃ (B : HA) (g : HD) (now : Int), vs = [.ref B.h, .int now] ∧ HAt K H B g ∧ g.now ≤ now ∧ B.S ≠ B.h ∧ H B.S = some (.lst []) ∧ RHost1 K B ⟨g.addr, g.ctr, now⟩ H Q
abbrev N_Host_tick : List Str := ["self", "now", "sock"]
theorem sc_Host_tick : FnScope N_Host_tick ["self", "now"] (defScope s_Host_tick) := ⟨rfl, rfl, rfl, by decide +kernel, rfl, by decide +kernel, by decide +kernel⟩
theorem fo_Host_tick (W : Wld K mg) : ∃ fd, FnOk P w K mg base CX0 1 (pl_Host_tick.ad K) fd ["self", "now"] (spTick K) ∧ FunD K "tick" "Host.tick" (defArgs s_Host_tick) (defBody s_Host_tick) (defScope s_Host_tick) [] [] (pl_Host_tick.ad K) fd := by
  obtain ⟨fd, F⟩ := W.d_Host_tick
  refine ⟨fd, F.ok sc_Host_tick (fun vs H Q E h => ?_) (fun cdv A outer s H vs Q E hr h => ?_), F⟩
  · obtain ⟨B, g, now, rfl, z1, l1, n1, z2, q⟩ := h; rfl
  · obtain ⟨B, g, now, rfl, z1, l1, n1, z2, q⟩ := h
    have hu := hu_of hr
    refine ⟨_, PSs.nox (pss_cons (ps_if (pt_cmpR op_lt (pv 1) (pe_get W.c_Host W.n_Host_now RHost.l_now (pv 0)) (nomark _)) (pss_one ps_never) pss_nil)
      (pss_cons (ps_put W.c_Host W.n_Host_now RHost.p_now RHost.len (pv 0) (pv 1))
      (pss_one (ps_for PassesOwn.never rfl (pi_list (pe_get W.c_Host W.n_Host__sockets RHost.l_sockets (pv 0))) (pg_name (i := 2) sc_Host_tick.nd rfl (Or.inl rfl)) pss_never)))), ?_⟩
    walk_at "s"
    refine c_loopL (xs := []) (fun i σ H' => Kp [B.h] H H' ∧ HAt K H' B ⟨g.addr, g.ctr, now⟩ ∧ H' B.S = some (.lst [])) ?_ ?_ ?_ ?_
    · exact ⟨by walk_at "kp", by walk_at "look", by walk_at "look"⟩
    · rintro i σ H' ⟨_, _, h⟩
      exact h
    · intro i y σ H' hx
      simp at hx
    · rintro σ H' ⟨e, h, _⟩
      walk_at "s"
      exact q H' e h
theorem ok_Host_tick (W : Wld K mg) : MFn P w K mg base (He.ga K "Host") "tick" 1 ["self", "now"] [] (spTick K) := by
  obtain ⟨fd, F1, F⟩ := fo_Host_tick (P := P) (w := w) (base := base) W
  exact ⟨⟨_, fd, [], W.c_Host, W.m_Host_tick, F1, F.bindsN fun _ _ _ _ _ _ us hl => match us, hl with | [_, _], _ => rfl, .nil⟩⟩
theorem u_Tick {B : HA} {g : HD} {now : Int} {H : Hp} {Q : VK} (h1 : HAt K H B g) (l : g.now ≤ now) (n : B.S ≠ B.h) (h2 : H B.S = some (.lst [])) (q : RHost1 K B ⟨g.addr, g.ctr, now⟩ H Q) : spTick K [.ref B.h, .int now] H Q E0 := ⟨B, g, now, rfl, h1, l, n, h2, q⟩
abbrev HA.setP (B : HA) (P : Addr) : HA := { B with P := P }
def RTake (K : PySem.W.Frag) (B : HA) (g : HD) (H : Hp) (Q : VK) : Prop := ∀ P2 H', H P2 = none → Kp [B.h] H H' → HAt K H' (B.setP P2) g → H' P2 = some (.lst []) → Q (.ref B.P) H'
def spTake (K : PySem.W.Frag) : Sp := fun vs H Q _ => ∃ (B : HA) (g : HD), vs = [.ref B.h] ∧ HAt K H B g ∧ RTake K B g H Q
abbrev N_Host_take : List Str := ["self", "packets"]
theorem sc_Host_take : FnScope N_Host_take ["self"] (defScope s_Host_take) := ⟨rfl, rfl, rfl, by decide +kernel, rfl, by decide +kernel, by decide +kernel⟩
theorem fo_Host_take (W : Wld K mg) : ∃ fd, FnOk P w K mg base CX0 1 (pl_Host_take.ad K) fd ["self"] (spTake K) ∧ FunD K "take" "Host.take" (defArgs s_Host_take) (defBody s_Host_take) (defScope s_Host_take) [] [] (pl_Host_take.ad K) fd := by
  obtain ⟨fd, F⟩ := W.d_Host_take
  refine ⟨fd, F.ok sc_Host_take (fun vs H Q E h => ?_) (fun cdv A outer s H vs Q E hr h => ?_), F⟩
  · obtain ⟨B, g, rfl, z1, q⟩ := h; rfl
  · obtain ⟨B, g, rfl, z1, q⟩ := h
    have hu := hu_of hr
    refine ⟨_, PSs.nox (pss_cons (ps_set (i := 1) sc_Host_take.nd rfl (Or.inl rfl) (pe_get W.c_Host W.n_Host__packets RHost.l_packets (pv 0)))
      (pss_cons (ps_put W.c_Host W.n_Host__packets RHost.p_packets RHost.len (pv 0) (pe_lst pa_nil))
      (pss_one (ps_ret (pv 1))))), ?_⟩
    walk_at "s"
    rename_i P2 fP
    exact q P2 _ (by walk_at "fresh") (by walk_at "kp") (by walk_at "ins") (by walk_at "look")
theorem ok_Host_take (W : Wld K mg) : MFn P w K mg base (He.ga K "Host") "take" 1 ["self"] [] (spTake K) := by
  obtain ⟨fd, F1, F⟩ := fo_Host_take (P := P) (w := w) (base := base) W
  exact ⟨⟨_, fd, [], W.c_Host, W.m_Host_take, F1, F.bindsN fun _ _ _ _ _ _ us hl => match us, hl with | [_], _ => rfl, .nil⟩⟩
theorem u_Take {B : HA} {g : HD} {H : Hp} {Q : VK} (h1 : HAt K H B g) (q : RTake K B g H Q) : spTake K [.ref B.h] H Q E0 := ⟨B, g, rfl, h1, q⟩
abbrev HA.setLSP (B : HA) (L S P : Addr) : HA := { B with L := L, S := S, P := P }
def RRest (K : PySem.W.Frag) (B : HA) (g : HD) (H : Hp) (Q : VK) : Prop := ∀ L S P H', H L = none → H S = none → H P = none → L ≠ S → L ≠ P → S ≠ P → Kp [B.h] H H' → HAt K H' (B.setLSP L S P) g → H' L = some (.dK []) → H' S = some (.lst []) → H' P = some (.lst []) → Q .non H'
def spRestart (K : PySem.W.Frag) : Sp := fun vs H Q _ => ∃ (B : HA) (g : HD), vs = [.ref B.h] ∧ HAt K H B g ∧ RRest K B g H Q
abbrev N_Host_restart : List Str := ["self"]
theorem sc_Host_restart : FnScope N_Host_restart ["self"] (defScope s_Host_restart) := ⟨rfl, rfl, rfl, by decide +kernel, rfl, by decide +kernel, by decide +kernel⟩
theorem fo_Host_restart (W : Wld K mg) : ∃ fd, FnOk P w K mg base CX0 1 (pl_Host_restart.ad K) fd ["self"] (spRestart K) ∧ FunD K "restart" "Host.restart" (defArgs s_Host_restart) (defBody s_Host_restart) (defScope s_Host_restart) [] [] (pl_Host_restart.ad K) fd := by
  obtain ⟨fd, F⟩ := W.d_Host_restart
  refine ⟨fd, F.ok sc_Host_restart (fun vs H Q E h => ?_) (fun cdv A outer s H vs Q E hr h => ?_), F⟩
  · obtain ⟨B, g, rfl, z1, q⟩ := h; rfl
  · obtain ⟨B, g, rfl, z1, q⟩ := h
    have hu := hu_of hr
    refine ⟨_, PSs.nox (pss_cons (ps_put W.c_Host W.n_Host__listeners RHost.p_listeners RHost.len (pv 0) pe_dnewK)
      (pss_cons (ps_put W.c_Host W.n_Host__sockets RHost.p_sockets RHost.len (pv 0) (pe_lst pa_nil))
      (pss_one (ps_put W.c_Host W.n_Host__packets RHost.p_packets RHost.len (pv 0) (pe_lst pa_nil))))), ?_⟩
    walk_at "s"
    rename_i L2 fL S2 fS P2 fP
    exact q L2 S2 P2 _ (by walk_at "fresh") (by walk_at "fresh") (by walk_at "fresh") (by walk_at "ne") (by walk_at "ne") (by walk_at "ne") (by walk_at "kp") (by walk_at "ins") (by walk_at "look") (by walk_at "look") (by walk_at "look")
theorem ok_Host_restart (W : Wld K mg) : MFn P w K mg base (He.ga K "Host") "restart" 1 ["self"] [] (spRestart K) := by
  obtain ⟨fd, F1, F⟩ := fo_Host_restart (P := P) (w := w) (base := base) W
  exact ⟨⟨_, fd, [], W.c_Host, W.m_Host_restart, F1, F.bindsN fun _ _ _ _ _ _ us hl => match us, hl with | [_], _ => rfl, .nil⟩⟩
theorem u_Restart {B : HA} {g : HD} {H : Hp} {Q : VK} (h1 : HAt K H B g) (q : RRest K B g H Q) : spRestart K [.ref B.h] H Q E0 := ⟨B, g, rfl, h1, q⟩
def spSockets (K : PySem.W.Frag) : Sp := fun vs H Q _ => ∃ (B : HA) (g : HD) (l : List (SkA × SkD)), vs = [.ref B.h] ∧ HAt K H B g ∧ H B.S = some (.lst (l.map fun y => .ref y.1.s)) ∧ SksAt K H l ∧ l.length ≤ 1000 ∧ RL (l.map fun y => .int y.2.cnt) H Q
abbrev N_Host_sockets : List Str := ["self", "sock"]
theorem sc_Host_sockets : FnScope N_Host_sockets ["self"] (defScope s_Host_sockets) := ⟨rfl, rfl, rfl, by decide +kernel, rfl, by decide +kernel, by decide +kernel⟩
theorem fo_Host_sockets (W : Wld K mg) : ∃ fd, FnOk P w K mg base CX0 1 (pl_Host_sockets.ad K) fd ["self"] (spSockets K) ∧ FunD K "sockets" "Host.sockets" (defArgs s_Host_sockets) (defBody s_Host_sockets) (defScope s_Host_sockets) [] [] (pl_Host_sockets.ad K) fd := by
  obtain ⟨fd, F⟩ := W.d_Host_sockets
  refine ⟨fd, F.ok sc_Host_sockets (fun vs H Q E h => ?_) (fun cdv A outer s H vs Q E hr h => ?_), F⟩
  · obtain ⟨B, g, l, rfl, z1, z2, z3, l1, q⟩ := h; rfl
  · obtain ⟨B, g, l, rfl, z1, z2, z3, l1, q⟩ := h
    have hu := hu_of hr
    refine ⟨_, PSs.nox (pss_one (ps_ret (pe_lc (own := [("sock", 1)]) (g := gName 1) (tt := tYes) rfl sc_Host_sockets.nd (pi_list (pe_get W.c_Host W.n_Host__sockets RHost.l_sockets (pv 0))) (blkOk_by (own := [("sock", 1)]) (N := N_Host_sockets) (sc := defScope s_Host_sockets) (by decide +kernel)) (fun _ _ _ _ _ => pg_name (i := 1) sc_Host_sockets.nd rfl (Or.inl rfl)) (fun _ _ _ _ _ => pts_nil) (fun _ _ _ _ _ => (pe_get W.c_Socket W.n_Socket_count RSocket.l_count_ (pv 1)))))), ?_⟩
    walk_at "s"
    rename_i p fp
    refine c_mapV (l.map fun y => V.int y.2.cnt) (by simp) z2 (by simpa using (show l.length ≤ 100000 by omega)) fp (fun _ => rfl) ?_ ?_
    · intro i x y H' hx hy e Q' hq
      rw [List.getElem?_map] at hx hy
      cases hi : l[i]? with
      | none => rw [hi] at hx; cases hx
      | some u =>
        rw [hi] at hx hy
        have ex : V.ref u.1.s = x := Option.some.inj hx
        have ey : V.int u.2.cnt = y := Option.some.inj hy
        subst ex ey
        have z4 := z3 u (List.mem_of_getElem? hi)
        walk_at "s"
        exact hq _ (by walk_at "same")
    · intro H2 e hD
      exact q p H2 fp e hD
theorem ok_Host_sockets (W : Wld K mg) : PFn P w K mg base (He.ga K "Host") "sockets" 1 (spSockets K) := by
  obtain ⟨fd, F1, F⟩ := fo_Host_sockets (P := P) (w := w) (base := base) W
  exact ⟨⟨_, _, fd, W.c_Host, W.p_Host_sockets, F1, F.bindsN fun _ _ _ _ _ _ us hl => match us, hl with | [_], _ => rfl⟩⟩
theorem u_Sockets {B : HA} {g : HD} {l : List (SkA × SkD)} {H : Hp} {Q : VK} (h1 : HAt K H B g) (h2 : H B.S = some (.lst (l.map fun y => .ref y.1.s))) (h3 : SksAt K H l) (l1 : l.length ≤ 1000) (q : RL (l.map fun y => .int y.2.cnt) H Q) : spSockets K [.ref B.h] H Q E0 := ⟨B, g, l, rfl, h1, h2, h3, l1, q⟩
theorem dk_eq {H : Hp} {a : Addr} {xs ys : List (Key × V)} (h : H a = some (.dK xs)) (e : xs = ys) : H a = some (.dK ys) := e ▸ h
theorem c_disp {trs : List (TE × TE)} {σ : L2.St} {H : Hp} {Q : VK} (h : ∀ p, H p = none → tPairs trs σ (upd H p (.dK [])) fun ps H2 => H2 p = some (.dK []) ∧ ∃ kvs : List (Key × V), ps = kvs.map (fun kv => (kV kv.1, kv.2)) ∧ kvs.length ≤ 15 ∧ Q (.ref p) (upd H2 p (.dK (mergeK [] kvs)))) : tDisp trs σ H Q := h
/-- what status tells -/
def statD (k : SkD) (o : OptD) (d : EndD) : List (Key × V) := [(Sum.inr "phase", .str d.ph), (Sum.inr "cause", d.cau), (Sum.inr "port", .int k.port), (Sum.inr "peer", .int k.peer), (Sum.inr "peer_port", .int k.pp), (Sum.inr "peer_count", .non), (Sum.inr "readable", .int 0), (Sum.inr "at_end", .bl false),
  (Sum.inr "writable", .int (if d.ab = true then 0 else d.free o)), (Sum.inr "unacknowledged", .int (d.nxt - 0)), (Sum.inr "window", .int (10 * o.mss)), (Sum.inr "timeout", .int o.wait)]
/-- a host that knows a socket, for reading -/
structure HsOK (K : PySem.W.Frag) (H : Hp) (B : HA) (g : HD) (o : OptD) (l : List (SkA × SkD)) (x : SkA × SkD) (d : EndD) : Prop where
  h : HAt K H B g
  S : H B.S = some (.lst (l.map fun y => .ref y.1.s))
  ks : SksAt K H l
  mem : x ∈ l
  uni : ∀ y ∈ l, y.2.cnt = x.2.cnt → y.1.s = x.1.s
  oa : OAt K H B.oa B.od o
  E : EndOK K H B.oa o x.1.A d
def spStatus (K : PySem.W.Frag) : Sp := fun vs H Q _ => ∃ (B : HA) (g : HD) (o : OptD) (l : List (SkA × SkD)) (x : SkA × SkD) (d : EndD), vs = [.ref B.h, .int x.2.cnt] ∧ HsOK K H B g o l x d ∧ ∀ p H2, H p = none → Same H H2 → H2 p = some (.dK (statD x.2 o d)) → Q (.ref p) H2
local macro_rules | `(tactic| walk_at "s1") => `(tactic| first
  | (with_reducible refine c_fld ?_)
  | (show spHasEnded _ _ _ _ _; refine' u_HasEnded ?k1 ?k2; (case k1 => walk_at "look"))
  | (show spFree _ _ _ _ _; refine' u_Free ?k1 ?k2 ?k3; (case k1 => walk_at "look"); (case k2 => walk_at "look"))
  | (show spEFlight _ _ _ _ _; refine' u_EFlight ?k1 ?k2 ?k3; (case k1 => walk_at "look"); (case k2 => walk_at "look"))
  | (show spTimeout _ _ _ _ _; refine' u_Timeout ?k1 ?k2 ?k3; (case k1 => walk_at "look"); (case k2 => walk_at "look"))
  | (show spReady _ _ _ _ _; refine' u_Ready ?k1 ?k2 ?k3; (case k1 => walk_at "look"); (case k2 => walk_at "look"))
  | (show spAtEnd _ _ _ _ _; refine' u_AtEnd ?k1 ?k2; (case k1 => walk_at "look"))
  | (with_reducible refine c_disp ?_))
theorem c_pairs {tk tv : TE} {r : List (TE × TE)} {σ : L2.St} {H : Hp} {Qp : List (V × V) → Hp → Prop} (h : tk σ H fun x H1 => tv σ H1 fun y H2 => tPairs r σ H2 fun ps H3 => Qp ((x, y) :: ps) H3) : tPairs ((tk, tv) :: r) σ H Qp := h
theorem c_pairn {σ : L2.St} {H : Hp} {Qp : List (V × V) → Hp → Prop} (h : Qp [] H) : tPairs [] σ H Qp := h
local macro_rules | `(tactic| walk_at "s1") => `(tactic| first
  | (with_reducible refine c_pairs ?_)
  | (with_reducible refine c_pairn ?_))
abbrev N_Host_status : List Str := ["self", "socket", "sock", "end", "writable"]
theorem sc_Host_status : FnScope N_Host_status ["self", "socket"] (defScope s_Host_status) := ⟨rfl, rfl, rfl, by decide +kernel, rfl, by decide +kernel, by decide +kernel⟩
theorem fo_Host_status (W : Wld K mg) : ∃ fd, FnOk P w K mg base CX0 15 (pl_Host_status.ad K) fd ["self", "socket"] (spStatus K) ∧ FunD K "status" "Host.status" (defArgs s_Host_status) (defBody s_Host_status) (defScope s_Host_status) [] [] (pl_Host_status.ad K) fd := by
  obtain ⟨fd, F⟩ := W.d_Host_status
  refine ⟨fd, F.ok sc_Host_status (fun vs H Q E h => ?_) (fun cdv A outer s H vs Q E hr h => ?_), F⟩
  · obtain ⟨B, g, o, l, x, d, rfl, ⟨z1, z2, z3, hx, un, z4, ⟨x1, x2, x3, x4, x5, x6, x7, x8, x9⟩⟩, q⟩ := h; rfl
  · obtain ⟨B, g, o, l, x, d, rfl, ⟨z1, z2, z3, hx, un, z4, ⟨x1, x2, x3, x4, x5, x6, x7, x8, x9⟩⟩, q⟩ := h
    have hu := hu_of hr
    refine ⟨_, PSs.nox (pss_cons (ps_set (i := 2) sc_Host_status.nd rfl (Or.inl rfl) (pe_mt (ok_Host__known (P := P) (K := K) W) (hr.mono (by decide)) (pv 0) (pa_cons (pv 1) pa_nil)))
      (pss_cons (ps_set (i := 3) sc_Host_status.nd rfl (Or.inl rfl) (pe_get W.c_Socket W.n_Socket_endpoint RSocket.l_endpoint (pv 2)))
      (pss_cons (ps_set (i := 4) sc_Host_status.nd rfl (Or.inl rfl) (pe_ifExp (pt_val (pe_pr (ok_Endpoint_has_ended (P := P) (K := K) W) (hr.mono (by decide)) (pv 3) rfl)) pe_int (pe_pr (ok_Sender_free (P := P) (K := K) W) (hr.mono (by decide)) (pe_get W.c_Endpoint W.n_Endpoint_sender REndpoint.l_sender (pv 3)) rfl)))
      (pss_one (ps_ret (pe_disp (pps_cons pe_str (pe_get W.c_Endpoint W.n_Endpoint_phase REndpoint.l_phase (pv 3)) (pps_cons pe_str (pe_get W.c_Endpoint W.n_Endpoint_cause REndpoint.l_cause (pv 3)) (pps_cons pe_str (pe_get W.c_Socket W.n_Socket_port RSocket.l_port (pv 2)) (pps_cons pe_str (pe_get W.c_Socket W.n_Socket_peer RSocket.l_peer (pv 2)) (pps_cons pe_str (pe_get W.c_Socket W.n_Socket_peer_port RSocket.l_peer_port (pv 2)) (pps_cons pe_str (pe_get W.c_Socket W.n_Socket_peer_count RSocket.l_peer_count (pv 2)) (pps_cons pe_str (pe_pr (ok_Receiver_ready (P := P) (K := K) W) (hr.mono (by decide)) (pe_get W.c_Endpoint W.n_Endpoint_receiver REndpoint.l_receiver (pv 3)) rfl) (pps_cons pe_str (pe_pr (ok_Receiver_at_end (P := P) (K := K) W) (hr.mono (by decide)) (pe_get W.c_Endpoint W.n_Endpoint_receiver REndpoint.l_receiver (pv 3)) rfl) (pps_cons pe_str (pv 4) (pps_cons pe_str (pe_pr (ok_Endpoint_flight (P := P) (K := K) W) (hr.mono (by decide)) (pv 3) rfl) (pps_cons pe_str (pe_fld (pe_get W.c_Endpoint W.n_Endpoint_control REndpoint.l_control (pv 3)) rfl) (pps_cons pe_str (pe_pr (ok_Endpoint_timeout (P := P) (K := K) W) (hr.mono (by decide)) (pv 3) rfl) pps_nil)))))))))))) (by rfl) (by rfl) (fun z => by cases z) (by decide))))))), ?_⟩
    have z6 := z3 x hx
    walk_at "s"
    refine u_Find z1 z2 z3 hx un ?_
    walk_at "s"
    cases hb : d.ab
    · refine br_f rfl ?_
      walk_at "s"
      refine ctl_cwnd W (o := o) (by walk_at "look") ?_
      walk_at "s"
      rename_i p fp
      refine And.intro (by walk_at "look") ⟨statD x.2 o d, by simp only [statD, hb]; rfl, by show 12 ≤ 15; decide, ?_⟩
      exact q p _ fp (by walk_at "same") (dk_eq (by walk_at "look") (by kernel_rfl))
    · refine br_t rfl ?_
      walk_at "s"
      refine ctl_cwnd W (o := o) (by walk_at "look") ?_
      walk_at "s"
      rename_i p fp
      refine And.intro (by walk_at "look") ⟨statD x.2 o d, by simp only [statD, hb]; rfl, by show 12 ≤ 15; decide, ?_⟩
      exact q p _ fp (by walk_at "same") (dk_eq (by walk_at "look") (by kernel_rfl))
theorem ok_Host_status (W : Wld K mg) : MFn P w K mg base (He.ga K "Host") "status" 15 ["self", "socket"] [] (spStatus K) := by
  obtain ⟨fd, F1, F⟩ := fo_Host_status (P := P) (w := w) (base := base) W
  exact ⟨⟨_, fd, [], W.c_Host, W.m_Host_status, F1, F.bindsN fun _ _ _ _ _ _ us hl => match us, hl with | [_, _], _ => rfl, .nil⟩⟩
theorem u_Status {B : HA} {g : HD} {o : OptD} {l : List (SkA × SkD)} {x : SkA × SkD} {d : EndD} {H : Hp} {Q : VK} (h : HsOK K H B g o l x d) (q : ∀ p H2, H p = none → Same H H2 → H2 p = some (.dK (statD x.2 o d)) → Q (.ref p) H2) : spStatus K [.ref B.h, .int x.2.cnt] H Q E0 := ⟨B, g, o, l, x, d, rfl, h, q⟩
end
end
/-! part D16 -/
section
set_option maxHeartbeats 4000000
open PySem PySem.Spec PyProof.Rows L2 ClX

section
variable {P : Program} [PrOk P] {w : World} {K : PySem.W.Frag} {mg : Str → Option Value} {base : Heap}
section
variable {σ : L2.St} {H : Hp} {Q : VK} {te : TE}
def LcE (Pv : Nat → List V → Hp → Prop) (Dl : Addr) (i : Nat) (y : V) (H4 : Hp) : Prop := ∃ acc, H4 Dl = some (.lst acc) ∧ acc.length < sizeLine ∧ ∃ ys, Pv (i + 1) ys (upd H4 Dl (.lst (acc ++ [y]))) ∧ upd H4 Dl (.lst (acc ++ [y])) Dl = some (.lst ys) ∧ ys.length = i + 1
theorem LcE.mk {Pv : Nat → List V → Hp → Prop} {Dl : Addr} {i : Nat} {y : V} {H4 : Hp} {ys : List V} (hi : i ≤ 100000) (h : H4 Dl = some (.lst ys)) (hl : ys.length = i) (p : Pv (i + 1) (ys ++ [y]) (upd H4 Dl (.lst (ys ++ [y])))) : LcE Pv Dl i y H4 :=
  ⟨ys, h, by rw [hl, sizeLine_eq]; omega, ys ++ [y], p, upd_same, by rw [List.length_append, hl]; rfl⟩
/-- a comprehension over a range -/
theorem c_lcR {m n j : Nat} {vs : List Nat} {Dl : Addr} {Qd : Hp → Prop} (hm : m = n) (hn : n ≤ 100000) (Pv : Nat → List V → Hp → Prop) (h0 : Pv 0 [] (upd H Dl (.lst []))) (hw : ∀ x, wipe ((wipe σ vs).set j (some x)) vs = wipe σ vs)
    (hs : ∀ i ys H', i < n → Pv i ys H' → H' Dl = some (.lst ys) → ys.length = i → te ((wipe σ vs).set j (some (.int i))) H' fun y H4 => LcE Pv Dl i y H4)
    (hd : ∀ ys H', Pv n ys H' → H' Dl = some (.lst ys) → ys.length = n → Qd H') :
    ∃ W : Nat → Nat → Hp → Prop, (∃ m, W 0 m (upd H Dl (.lst []))) ∧ ∀ i m' H, W i m' H →
      ((Itr 0 m).stop i H ∧ Qd H) ∨ ((Itr 0 m).go i H ∧ ∃ Nx : Hp → Prop, (∀ H', Nx H' → ∃ m2, m2 < m' ∧ W (i + 1) m2 H') ∧ ∀ x H', (Itr 0 m).yld i H x H' → gName j x (wipe σ vs) H' fun σ2 H2 => wipe σ2 vs = wipe σ vs ∧ tYes σ2 H2 fun b H3 =>
        if b = true then te σ2 H3 fun y H4 => ∃ acc, H4 Dl = some (.lst acc) ∧ acc.length < sizeLine ∧ Nx (upd H4 Dl (.lst (acc ++ [y]))) else Nx H3) := by
  subst hm
  refine lc_range (lo := 0) (n := m) (fun i H' => ∃ ys, Pv i ys H' ∧ H' Dl = some (.lst ys) ∧ ys.length = i) ⟨[], h0, upd_same, rfl⟩ ?_ ?_
  · rintro i H' hi ⟨ys, p, hD, hl⟩
    have e0 : (0 : Int) + (i : Int) = (i : Int) := Int.zero_add _
    rw [e0]
    refine ⟨hw _, ?_⟩
    refine c_yes ?_
    rw [if_pos rfl]
    exact hs i ys H' hi p hD hl
  · rintro H' ⟨ys, p, hD, hl⟩
    exact hd ys H' p hD hl
end
abbrev rdR (nl : Addr) (ln : Int) (t : Nat) : RCodeReader := ⟨.ref nl, .int ln, .int (t : Int)⟩
abbrev RdA (K : PySem.W.Frag) (H : Hp) (p dx nl : Addr) (ln : Int) (t : Nat) : Prop := H p = some (.ins (He.ga K "CodeReader") dx (RCodeReader.fs (rdR nl ln t)))
/-- what a reading hands back -/
def RRd (K : PySem.W.Frag) (p dx nl : Addr) (ln : Int) (ns rest : List Int) (v : V) (H : Hp) (Q : VK) : Prop := ∀ (t : Nat) H', Kp [p] H H' → RdA K H' p dx nl ln t → ns.drop t = rest → t ≤ ns.length → Q v H'
theorem drop_at {ns rest : List Int} {n : Int} {t : Nat} (h : ns.drop t = n :: rest) : t < ns.length ∧ ns[t]? = some n ∧ ns.drop (t + 1) = rest := by
  have h1 : t < ns.length := by
    rcases Nat.lt_or_ge t ns.length with q | q
    · exact q
    · rw [List.drop_eq_nil_of_le q] at h
      cases h
  have h2 := List.drop_eq_getElem_cons h1
  rw [h] at h2
  have h3 := List.cons.inj h2
  exact ⟨h1, by rw [List.getElem?_eq_getElem h1, h3.1], h3.2.symm⟩
def spNumber (K : PySem.W.Frag) : Sp := fun vs H Q _ => ∃ (p dx nl : Addr) (ln : Int) (t : Nat) (ns rest : List Int) (n : Int), vs = [.ref p] ∧ RdA K H p dx nl ln t ∧ H nl = some (.lst (nis ns)) ∧ nl ≠ p ∧ ns.drop t = n :: rest ∧ RRd K p dx nl ln ns rest (.int n) H Q
abbrev N_CodeReader_number : List Str := ["self"]
theorem sc_CodeReader_number : FnScope N_CodeReader_number ["self"] (defScope s_CodeReader_number) := ⟨rfl, rfl, rfl, by decide +kernel, rfl, by decide +kernel, by decide +kernel⟩
theorem fo_CodeReader_number (W : Wld K mg) : ∃ fd, FnOk P w K mg base CX0 1 (pl_CodeReader_number.ad K) fd ["self"] (spNumber K) ∧ FunD K "number" "CodeReader.number" (defArgs s_CodeReader_number) (defBody s_CodeReader_number) (defScope s_CodeReader_number) [] [] (pl_CodeReader_number.ad K) fd := by
  obtain ⟨fd, F⟩ := W.d_CodeReader_number
  refine ⟨fd, F.ok sc_CodeReader_number (fun vs H Q E h => ?_) (fun cdv A outer s H vs Q E hr h => ?_), F⟩
  · obtain ⟨p, dx, nl, ln, t, ns, rest, n, rfl, z1, z2, n1, hd, q⟩ := h; rfl
  · obtain ⟨p, dx, nl, ln, t, ns, rest, n, rfl, z1, z2, n1, hd, q⟩ := h
    have hu := hu_of hr
    refine ⟨_, PSs.nox (pss_cons (ps_if (pt_cmpR op_ge (pe_get W.c_CodeReader W.n_CodeReader_at RCodeReader.l_at_ (pv 0)) (pe_callB call_len_seq (by rfl) W.f_len boot_len (pa_cons (pe_get W.c_CodeReader W.n_CodeReader_numbers RCodeReader.l_numbers (pv 0)) pa_nil)) (nomark _)) (pss_one ps_never) pss_nil)
      (pss_cons (ps_putaug W.c_CodeReader W.n_CodeReader_at RCodeReader.l_at_ RCodeReader.p_at_ RCodeReader.len (pv 0) pe_int in_add)
      (pss_one (ps_ret (pe_ix ix_list (pe_get W.c_CodeReader W.n_CodeReader_numbers RCodeReader.l_numbers (pv 0)) (pe_op op_sub (pe_get W.c_CodeReader W.n_CodeReader_at RCodeReader.l_at_ (pv 0)) pe_int) (fun _ _ => rfl)))))), ?_⟩
    walk_at "s"
    obtain ⟨d1, d2, d3⟩ := drop_at hd
    refine br_f (decide_eq_false (by simp; omega)) ?_
    walk_at "s"
    refine' c_ixL (v := .int n) (p := nl) (xs := nis ns) ?k1 ?k2 ?k3
    case k1 => walk_at "look"
    case k2 => rw [show (t : Int) + 1 - 1 = (t : Int) by omega]; exact atI_nat (by simp [d2])
    exact q (t + 1) _ (by walk_at "kp") (by walk_at "ins") d3 d1
theorem ok_CodeReader_number (W : Wld K mg) : MFn P w K mg base (He.ga K "CodeReader") "number" 1 ["self"] [] (spNumber K) := by
  obtain ⟨fd, F1, F⟩ := fo_CodeReader_number (P := P) (w := w) (base := base) W
  exact ⟨⟨_, fd, [], W.c_CodeReader, W.m_CodeReader_number, F1, F.bindsN fun _ _ _ _ _ _ us hl => match us, hl with | [_], _ => rfl, .nil⟩⟩
theorem u_Number {p dx nl : Addr} {ln : Int} {t : Nat} {ns rest : List Int} {n : Int} {H : Hp} {Q : VK} (h1 : RdA K H p dx nl ln t) (h2 : H nl = some (.lst (nis ns))) (n1 : nl ≠ p) (hd : ns.drop t = n :: rest) (q : RRd K p dx nl ln ns rest (.int n) H Q) : spNumber K [.ref p] H Q E0 := ⟨p, dx, nl, ln, t, ns, rest, n, rfl, h1, h2, n1, hd, q⟩
abbrev b2i (b : Bool) : Int := if b = true then 1 else 0
local macro_rules | `(tactic| walk_at "s1") => `(tactic| first
  | (show spNumber _ _ _ _ _; refine' u_Number ?k1 ?k2 ?k3 ?k4 ?k5; (case k1 => walk_at "look"); (case k2 => walk_at "look"); (case k3 => assumption); (case k4 => assumption))
  | ((with_reducible show RRd _ _ _ _ _ _ _ _ _ _); intro t9 H9 e9 h9 d9 l9))
def spFlag (K : PySem.W.Frag) : Sp := fun vs H Q _ => ∃ (p dx nl : Addr) (ln : Int) (t : Nat) (ns rest : List Int) (n : Int) (b : Bool), vs = [.ref p] ∧ RdA K H p dx nl ln t ∧ H nl = some (.lst (nis ns)) ∧ nl ≠ p ∧ ns.drop t = n :: rest ∧ n = b2i b ∧ RRd K p dx nl ln ns rest (.bl b) H Q
abbrev N_CodeReader_flag : List Str := ["self", "number"]
theorem sc_CodeReader_flag : FnScope N_CodeReader_flag ["self"] (defScope s_CodeReader_flag) := ⟨rfl, rfl, rfl, by decide +kernel, rfl, by decide +kernel, by decide +kernel⟩
theorem fo_CodeReader_flag (W : Wld K mg) : ∃ fd, FnOk P w K mg base CX0 2 (pl_CodeReader_flag.ad K) fd ["self"] (spFlag K) ∧ FunD K "flag" "CodeReader.flag" (defArgs s_CodeReader_flag) (defBody s_CodeReader_flag) (defScope s_CodeReader_flag) [] [] (pl_CodeReader_flag.ad K) fd := by
  obtain ⟨fd, F⟩ := W.d_CodeReader_flag
  refine ⟨fd, F.ok sc_CodeReader_flag (fun vs H Q E h => ?_) (fun cdv A outer s H vs Q E hr h => ?_), F⟩
  · obtain ⟨p, dx, nl, ln, t, ns, rest, n, b, rfl, z1, z2, n1, hd, rfl, q⟩ := h; rfl
  · obtain ⟨p, dx, nl, ln, t, ns, rest, n, b, rfl, z1, z2, n1, hd, rfl, q⟩ := h
    have hu := hu_of hr
    refine ⟨_, PSs.nox (pss_cons (ps_set (i := 1) sc_CodeReader_flag.nd rfl (Or.inl rfl) (pe_mt0 (ok_CodeReader_number (P := P) (K := K) W) (hr.mono (by decide)) (pv 0)))
      (pss_cons (ps_if (pt_cmpR op_gt (pv 1) pe_int (nomark _)) (pss_one ps_never) pss_nil)
      (pss_one (ps_ret (pe_cmpR op_eq (pv 1) pe_int (nomark _)))))), ?_⟩
    walk_at "s"
    cases b
    · refine br_f rfl ?_
      walk_at "s"
      rename_i t9 H9 e9 h9 d9 l9
      exact q t9 H9 e9 h9 d9 l9
    · refine br_f rfl ?_
      walk_at "s"
      rename_i t9 H9 e9 h9 d9 l9
      exact q t9 H9 e9 h9 d9 l9
theorem ok_CodeReader_flag (W : Wld K mg) : MFn P w K mg base (He.ga K "CodeReader") "flag" 2 ["self"] [] (spFlag K) := by
  obtain ⟨fd, F1, F⟩ := fo_CodeReader_flag (P := P) (w := w) (base := base) W
  exact ⟨⟨_, fd, [], W.c_CodeReader, W.m_CodeReader_flag, F1, F.bindsN fun _ _ _ _ _ _ us hl => match us, hl with | [_], _ => rfl, .nil⟩⟩
theorem u_Flagb {p dx nl : Addr} {ln : Int} {t : Nat} {ns rest : List Int} {b : Bool} {H : Hp} {Q : VK} (h1 : RdA K H p dx nl ln t) (h2 : H nl = some (.lst (nis ns))) (n1 : nl ≠ p) (hd : ns.drop t = b2i b :: rest) (q : RRd K p dx nl ln ns rest (.bl b) H Q) : spFlag K [.ref p] H Q E0 := ⟨p, dx, nl, ln, t, ns, rest, b2i b, b, rfl, h1, h2, n1, hd, rfl, q⟩
theorem u_Flag0 {p dx nl : Addr} {ln : Int} {t : Nat} {ns rest : List Int} {H : Hp} {Q : VK} (h1 : RdA K H p dx nl ln t) (h2 : H nl = some (.lst (nis ns))) (n1 : nl ≠ p) (hd : ns.drop t = 0 :: rest) (q : RRd K p dx nl ln ns rest (.bl false) H Q) : spFlag K [.ref p] H Q E0 := ⟨p, dx, nl, ln, t, ns, rest, 0, false, rfl, h1, h2, n1, hd, rfl, q⟩
theorem u_Flag1 {p dx nl : Addr} {ln : Int} {t : Nat} {ns rest : List Int} {H : Hp} {Q : VK} (h1 : RdA K H p dx nl ln t) (h2 : H nl = some (.lst (nis ns))) (n1 : nl ≠ p) (hd : ns.drop t = 1 :: rest) (q : RRd K p dx nl ln ns rest (.bl true) H Q) : spFlag K [.ref p] H Q E0 := ⟨p, dx, nl, ln, t, ns, rest, 1, true, rfl, h1, h2, n1, hd, rfl, q⟩
def spMaybe (K : PySem.W.Frag) : Sp := fun vs H Q _ => ∃ (p dx nl : Addr) (ln : Int) (t : Nat) (ns rest : List Int), vs = [.ref p] ∧ RdA K H p dx nl ln t ∧ H nl = some (.lst (nis ns)) ∧ nl ≠ p ∧
  ((ns.drop t = 0 :: rest ∧ RRd K p dx nl ln ns rest .non H Q) ∨ ∃ n, ns.drop t = 1 :: n :: rest ∧ RRd K p dx nl ln ns rest (.int n) H Q)
abbrev N_CodeReader_maybe : List Str := ["self"]
theorem sc_CodeReader_maybe : FnScope N_CodeReader_maybe ["self"] (defScope s_CodeReader_maybe) := ⟨rfl, rfl, rfl, by decide +kernel, rfl, by decide +kernel, by decide +kernel⟩
theorem fo_CodeReader_maybe (W : Wld K mg) : ∃ fd, FnOk P w K mg base CX0 3 (pl_CodeReader_maybe.ad K) fd ["self"] (spMaybe K) ∧ FunD K "maybe" "CodeReader.maybe" (defArgs s_CodeReader_maybe) (defBody s_CodeReader_maybe) (defScope s_CodeReader_maybe) [] [] (pl_CodeReader_maybe.ad K) fd := by
  obtain ⟨fd, F⟩ := W.d_CodeReader_maybe
  refine ⟨fd, F.ok sc_CodeReader_maybe (fun vs H Q E h => ?_) (fun cdv A outer s H vs Q E hr h => ?_), F⟩
  · obtain ⟨p, dx, nl, ln, t, ns, rest, rfl, z1, z2, n1, hq⟩ := h; rfl
  · obtain ⟨p, dx, nl, ln, t, ns, rest, rfl, z1, z2, n1, hq⟩ := h
    have hu := hu_of hr
    refine ⟨_, PSs.nox (pss_cons (ps_if (pt_val (pe_mt0 (ok_CodeReader_flag (P := P) (K := K) W) (hr.mono (by decide)) (pv 0))) (pss_one (ps_ret (pe_mt0 (ok_CodeReader_number (P := P) (K := K) W) (hr.mono (by decide)) (pv 0)))) pss_nil)
      (pss_one (ps_ret pe_non))), ?_⟩
    rcases hq with ⟨hd, q⟩ | ⟨n, hd, q⟩
    · walk_at "s"
      refine u_Flag0 z1 z2 n1 hd ?_
      walk_at "s"
      rename_i t9 H9 e9 h9 d9 l9
      exact q t9 H9 e9 h9 d9 l9
    · walk_at "s"
      refine u_Flag1 z1 z2 n1 hd ?_
      walk_at "s"
      rename_i t9 H9 e9 h9 d9 l9 t8 H8 e8 h8 d8 l8
      exact q t8 H8 (by walk_at "kp") h8 d8 l8
theorem ok_CodeReader_maybe (W : Wld K mg) : MFn P w K mg base (He.ga K "CodeReader") "maybe" 3 ["self"] [] (spMaybe K) := by
  obtain ⟨fd, F1, F⟩ := fo_CodeReader_maybe (P := P) (w := w) (base := base) W
  exact ⟨⟨_, fd, [], W.c_CodeReader, W.m_CodeReader_maybe, F1, F.bindsN fun _ _ _ _ _ _ us hl => match us, hl with | [_], _ => rfl, .nil⟩⟩
theorem u_Maybe0 {p dx nl : Addr} {ln : Int} {t : Nat} {ns rest : List Int} {H : Hp} {Q : VK} (h1 : RdA K H p dx nl ln t) (h2 : H nl = some (.lst (nis ns))) (n1 : nl ≠ p) (hd : ns.drop t = 0 :: rest) (q : RRd K p dx nl ln ns rest .non H Q) : spMaybe K [.ref p] H Q E0 := ⟨p, dx, nl, ln, t, ns, rest, rfl, h1, h2, n1, .inl ⟨hd, q⟩⟩
theorem u_Maybe1 {p dx nl : Addr} {ln : Int} {t : Nat} {ns rest : List Int} {n : Int} {H : Hp} {Q : VK} (h1 : RdA K H p dx nl ln t) (h2 : H nl = some (.lst (nis ns))) (n1 : nl ≠ p) (hd : ns.drop t = 1 :: n :: rest) (q : RRd K p dx nl ln ns rest (.int n) H Q) : spMaybe K [.ref p] H Q E0 := ⟨p, dx, nl, ln, t, ns, rest, rfl, h1, h2, n1, .inr ⟨n, hd, q⟩⟩
def spFinishR (K : PySem.W.Frag) : Sp := fun vs H Q _ => ∃ (p dx nl : Addr) (ln : Int) (t : Nat) (ns : List Int), vs = [.ref p] ∧ RdA K H p dx nl ln t ∧ H nl = some (.lst (nis ns)) ∧ ns.drop t = [] ∧ Q .non H
abbrev N_CodeReader_finish : List Str := ["self"]
theorem sc_CodeReader_finish : FnScope N_CodeReader_finish ["self"] (defScope s_CodeReader_finish) := ⟨rfl, rfl, rfl, by decide +kernel, rfl, by decide +kernel, by decide +kernel⟩
theorem fo_CodeReader_finish (W : Wld K mg) : ∃ fd, FnOk P w K mg base CX0 1 (pl_CodeReader_finish.ad K) fd ["self"] (spFinishR K) ∧ FunD K "finish" "CodeReader.finish" (defArgs s_CodeReader_finish) (defBody s_CodeReader_finish) (defScope s_CodeReader_finish) [] [] (pl_CodeReader_finish.ad K) fd := by
  obtain ⟨fd, F⟩ := W.d_CodeReader_finish
  refine ⟨fd, F.ok sc_CodeReader_finish (fun vs H Q E h => ?_) (fun cdv A outer s H vs Q E hr h => ?_), F⟩
  · obtain ⟨p, dx, nl, ln, t, ns, rfl, z1, z2, hd, q⟩ := h; rfl
  · obtain ⟨p, dx, nl, ln, t, ns, rfl, z1, z2, hd, q⟩ := h
    have hu := hu_of hr
    refine ⟨_, PSs.nox (pss_one (ps_if (pt_cmpR op_lt (pe_get W.c_CodeReader W.n_CodeReader_at RCodeReader.l_at_ (pv 0)) (pe_callB call_len_seq (by rfl) W.f_len boot_len (pa_cons (pe_get W.c_CodeReader W.n_CodeReader_numbers RCodeReader.l_numbers (pv 0)) pa_nil)) (nomark _)) (pss_one ps_never) pss_nil)), ?_⟩
    walk_at "s"
    have hl := List.drop_eq_nil_iff.mp hd
    refine br_f (decide_eq_false (by simp; omega)) ?_
    walk_at "s"
    exact q
theorem ok_CodeReader_finish (W : Wld K mg) : MFn P w K mg base (He.ga K "CodeReader") "finish" 1 ["self"] [] (spFinishR K) := by
  obtain ⟨fd, F1, F⟩ := fo_CodeReader_finish (P := P) (w := w) (base := base) W
  exact ⟨⟨_, fd, [], W.c_CodeReader, W.m_CodeReader_finish, F1, F.bindsN fun _ _ _ _ _ _ us hl => match us, hl with | [_], _ => rfl, .nil⟩⟩
theorem u_FinishR {p dx nl : Addr} {ln : Int} {t : Nat} {ns : List Int} {H : Hp} {Q : VK} (h1 : RdA K H p dx nl ln t) (h2 : H nl = some (.lst (nis ns))) (hd : ns.drop t = []) (q : Q .non H) : spFinishR K [.ref p] H Q E0 := ⟨p, dx, nl, ln, t, ns, rfl, h1, h2, hd, q⟩
def spChoice (K : PySem.W.Frag) : Sp := fun vs H Q _ => ∃ (p dx nl tp : Addr) (ln : Int) (t : Nat) (ns rest : List Int) (j : Nat) (ys : List Str) (z : Str), vs = [.ref p, .ref tp] ∧ RdA K H p dx nl ln t ∧ H nl = some (.lst (nis ns)) ∧ nl ≠ p ∧ ns.drop t = (j : Int) :: rest ∧ (∀ H, SqT K H tp (ys.map V.str)) ∧ ys[j]? = some z ∧ RRd K p dx nl ln ns rest (.str z) H Q
abbrev N_CodeReader_choice : List Str := ["self", "names", "number"]
theorem sc_CodeReader_choice : FnScope N_CodeReader_choice ["self", "names"] (defScope s_CodeReader_choice) := ⟨rfl, rfl, rfl, by decide +kernel, rfl, by decide +kernel, by decide +kernel⟩
theorem fo_CodeReader_choice (W : Wld K mg) : ∃ fd, FnOk P w K mg base CX0 2 (pl_CodeReader_choice.ad K) fd ["self", "names"] (spChoice K) ∧ FunD K "choice" "CodeReader.choice" (defArgs s_CodeReader_choice) (defBody s_CodeReader_choice) (defScope s_CodeReader_choice) [] [] (pl_CodeReader_choice.ad K) fd := by
  obtain ⟨fd, F⟩ := W.d_CodeReader_choice
  refine ⟨fd, F.ok sc_CodeReader_choice (fun vs H Q E h => ?_) (fun cdv A outer s H vs Q E hr h => ?_), F⟩
  · obtain ⟨p, dx, nl, tp, ln, t, ns, rest, j, ys, z, rfl, z1, z2, n1, hd, z3, hz, q⟩ := h; rfl
  · obtain ⟨p, dx, nl, tp, ln, t, ns, rest, j, ys, z, rfl, z1, z2, n1, hd, z3, hz, q⟩ := h
    have hu := hu_of hr
    refine ⟨_, PSs.nox (pss_cons (ps_set (i := 2) sc_CodeReader_choice.nd rfl (Or.inl rfl) (pe_mt0 (ok_CodeReader_number (P := P) (K := K) W) (hr.mono (by decide)) (pv 0)))
      (pss_cons (ps_if (pt_cmpR op_ge (pv 2) (pe_callB call_len_seq (by rfl) W.f_len boot_len (pa_cons (pv 1) pa_nil)) (nomark _)) (pss_one ps_never) pss_nil)
      (pss_one (ps_ret (pe_ix ix_tup (pv 1) (pv 2) (fun _ _ => rfl)))))), ?_⟩
    walk_at "s"
    rename_i t9 H9 e9 h9 d9 l9
    have hj : j < ys.length := (List.getElem?_eq_some_iff.mp hz).1
    refine c_listofT (z3 _) ?_
    walk_at "s"
    refine br_f (decide_eq_false (by simp; omega)) ?_
    walk_at "s"
    refine ⟨tp, ys.map V.str, (j : Int), .str z, rfl, rfl, z3 _, atI_nat (by simp [hz]), ?_⟩
    exact q t9 H9 e9 h9 d9 l9
theorem ok_CodeReader_choice (W : Wld K mg) : MFn P w K mg base (He.ga K "CodeReader") "choice" 2 ["self", "names"] [] (spChoice K) := by
  obtain ⟨fd, F1, F⟩ := fo_CodeReader_choice (P := P) (w := w) (base := base) W
  exact ⟨⟨_, fd, [], W.c_CodeReader, W.m_CodeReader_choice, F1, F.bindsN fun _ _ _ _ _ _ us hl => match us, hl with | [_, _], _ => rfl, .nil⟩⟩
theorem u_Choice {p dx nl tp : Addr} {ln : Int} {t : Nat} {ns rest : List Int} {i : Int} (j : Nat) (ys : List Str) (z : Str) {H : Hp} {Q : VK} (h1 : RdA K H p dx nl ln t) (h2 : H nl = some (.lst (nis ns))) (n1 : nl ≠ p) (hd : ns.drop t = i :: rest) (hi : i = (j : Int)) (h3 : ∀ H, SqT K H tp (ys.map V.str)) (hz : ys[j]? = some z) (q : RRd K p dx nl ln ns rest (.str z) H Q) : spChoice K [.ref p, .ref tp] H Q E0 := ⟨p, dx, nl, tp, ln, t, ns, rest, j, ys, z, rfl, h1, h2, n1, hi ▸ hd, h3, hz, q⟩
/-- a list is read -/
def RRdL (K : PySem.W.Frag) (p dx nl : Addr) (ln : Int) (ns rest els : List Int) (H : Hp) (Q : VK) : Prop := ∀ (t : Nat) l H', H l = none → Kp [p] H H' → RdA K H' p dx nl ln t → ns.drop t = rest → t ≤ ns.length → H' l = some (.lst (nis els)) → Q (.ref l) H'
def spMany (K : PySem.W.Frag) : Sp := fun vs H Q _ => ∃ (p dx nl : Addr) (ln : Int) (t : Nat) (ns els rest : List Int), vs = [.ref p] ∧ RdA K H p dx nl ln t ∧ H nl = some (.lst (nis ns)) ∧ nl ≠ p ∧ ns.drop t = (els.length : Int) :: (els ++ rest) ∧ els.length ≤ 10000 ∧ RRdL K p dx nl ln ns rest els H Q
abbrev N_CodeReader_many : List Str := ["self", "size", "_"]
theorem sc_CodeReader_many : FnScope N_CodeReader_many ["self"] (defScope s_CodeReader_many) := ⟨rfl, rfl, rfl, by decide +kernel, rfl, by decide +kernel, by decide +kernel⟩
theorem fo_CodeReader_many (W : Wld K mg) : ∃ fd, FnOk P w K mg base CX0 3 (pl_CodeReader_many.ad K) fd ["self"] (spMany K) ∧ FunD K "many" "CodeReader.many" (defArgs s_CodeReader_many) (defBody s_CodeReader_many) (defScope s_CodeReader_many) [] [] (pl_CodeReader_many.ad K) fd := by
  obtain ⟨fd, F⟩ := W.d_CodeReader_many
  refine ⟨fd, F.ok sc_CodeReader_many (fun vs H Q E h => ?_) (fun cdv A outer s H vs Q E hr h => ?_), F⟩
  · obtain ⟨p, dx, nl, ln, t, ns, els, rest, rfl, z1, z2, n1, hd, l1, q⟩ := h; rfl
  · obtain ⟨p, dx, nl, ln, t, ns, els, rest, rfl, z1, z2, n1, hd, l1, q⟩ := h
    have hu := hu_of hr
    refine ⟨_, PSs.nox (pss_cons (ps_set (i := 1) sc_CodeReader_many.nd rfl (Or.inl rfl) (pe_mt0 (ok_CodeReader_number (P := P) (K := K) W) (hr.mono (by decide)) (pv 0)))
      (pss_cons (ps_if (pt_cmpR op_gt (pv 1) (pe_op op_sub (pe_callB call_len_seq (by rfl) W.f_len boot_len (pa_cons (pe_get W.c_CodeReader W.n_CodeReader_numbers RCodeReader.l_numbers (pv 0)) pa_nil)) (pe_get W.c_CodeReader W.n_CodeReader_at RCodeReader.l_at_ (pv 0))) (nomark _)) (pss_one ps_never) pss_nil)
      (pss_one (ps_ret (pe_lc (own := [("_", 2)]) (g := gName 2) (tt := tYes) rfl sc_CodeReader_many.nd (pi_range1 rfl W.f_range (pa_cons (pv 1) pa_nil)) (blkOk_by (own := [("_", 2)]) (N := N_CodeReader_many) (sc := defScope s_CodeReader_many) (by decide +kernel)) (fun _ _ _ _ _ => pg_name (i := 2) sc_CodeReader_many.nd rfl (Or.inl rfl)) (fun _ _ _ _ _ => pts_nil) (fun _ _ _ _ _ => (pe_mt0 (ok_CodeReader_number (P := P) (K := K) W) (hr.mono (by decide)) (pv 0)))))))), ?_⟩
    walk_at "s"
    rename_i t9 H9 e9 h9 d9 l9
    have hl : ns.length - t9 = els.length + rest.length := by
      have := congrArg List.length d9
      simpa using this
    refine br_f (decide_eq_false (by simp; omega)) ?_
    walk_at "s"
    rename_i Dl fD
    refine c_lcR (n := els.length) (by simp) (by omega) (fun i ys H' => ys = nis (els.take i) ∧ (∀ b o, H9 b = some o → b ≠ p → H' b = some o) ∧ ∃ t, RdA K H' p dx nl ln t ∧ ns.drop t = els.drop i ++ rest ∧ t ≤ ns.length) ?_ (fun _ => rfl) ?_ ?_
    · exact ⟨rfl, fun b o hb _ => by walk_at "look", t9, by walk_at "look", d9, l9⟩
    · rintro i ys H' hi ⟨rfl, e2, t2, r2, d2, l2⟩ hD hl2
      have hc : els.drop i = els[i] :: els.drop (i + 1) := List.drop_eq_getElem_cons hi
      rw [hc] at d2
      have z3 := e2 nl _ (by walk_at "look") n1
      have np : p ≠ Dl := ne_of_none h9 fD
      walk_at "s"
      rename_i t3 H3 e3 h3 d3 l3
      refine LcE.mk (by omega) (e3 _ _ hD (by simpa using fun e => np e.symm)) hl2 ⟨?_, ?_, t3, ?_, d3, l3⟩
      · have ht : els.take (i + 1) = els.take i ++ [els[i]] := by rw [List.take_add_one, List.getElem?_eq_getElem hi]; rfl
        show List.map V.int (els.take i) ++ [V.int els[i]] = List.map V.int (els.take (i + 1))
        rw [ht, List.map_append]
        rfl
      · intro b o hb hn
        exact upd_app (e3 _ _ (e2 b o hb hn) (by simpa using hn)) (ne_of_none hb fD)
      · exact upd_app h3 np
    · rintro ys H' ⟨rfl, e2, t2, r2, d2, l2⟩ hD hl2
      refine q t2 Dl H' (by walk_at "fresh") ?_ r2 (by simpa using d2) l2 (by simpa using hD)
      intro b o hb hn
      exact e2 b o (e9 b o hb hn) (by simpa using hn)
theorem ok_CodeReader_many (W : Wld K mg) : MFn P w K mg base (He.ga K "CodeReader") "many" 3 ["self"] [] (spMany K) := by
  obtain ⟨fd, F1, F⟩ := fo_CodeReader_many (P := P) (w := w) (base := base) W
  exact ⟨⟨_, fd, [], W.c_CodeReader, W.m_CodeReader_many, F1, F.bindsN fun _ _ _ _ _ _ us hl => match us, hl with | [_], _ => rfl, .nil⟩⟩
theorem u_Many {p dx nl : Addr} {ln : Int} {t : Nat} {ns rest : List Int} (els : List Int) {H : Hp} {Q : VK} (h1 : RdA K H p dx nl ln t) (h2 : H nl = some (.lst (nis ns))) (n1 : nl ≠ p) (hd : ns.drop t = (els.length : Int) :: (els ++ rest)) (l : els.length ≤ 10000) (q : RRdL K p dx nl ln ns rest els H Q) : spMany K [.ref p] H Q E0 := ⟨p, dx, nl, ln, t, ns, els, rest, rfl, h1, h2, n1, hd, l, q⟩
/-- no pairs -/
def spPairs0 (K : PySem.W.Frag) : Sp := fun vs H Q _ => ∃ (p dx nl : Addr) (ln : Int) (t : Nat) (ns rest : List Int), vs = [.ref p] ∧ RdA K H p dx nl ln t ∧ H nl = some (.lst (nis ns)) ∧ nl ≠ p ∧ ns.drop t = 0 :: rest ∧ RRdL K p dx nl ln ns rest [] H Q
abbrev N_CodeReader_pairs : List Str := ["self", "size", "_"]
theorem sc_CodeReader_pairs : FnScope N_CodeReader_pairs ["self"] (defScope s_CodeReader_pairs) := ⟨rfl, rfl, rfl, by decide +kernel, rfl, by decide +kernel, by decide +kernel⟩
theorem fo_CodeReader_pairs (W : Wld K mg) : ∃ fd, FnOk P w K mg base CX0 3 (pl_CodeReader_pairs.ad K) fd ["self"] (spPairs0 K) ∧ FunD K "pairs" "CodeReader.pairs" (defArgs s_CodeReader_pairs) (defBody s_CodeReader_pairs) (defScope s_CodeReader_pairs) [] [] (pl_CodeReader_pairs.ad K) fd := by
  obtain ⟨fd, F⟩ := W.d_CodeReader_pairs
  refine ⟨fd, F.ok sc_CodeReader_pairs (fun vs H Q E h => ?_) (fun cdv A outer s H vs Q E hr h => ?_), F⟩
  · obtain ⟨p, dx, nl, ln, t, ns, rest, rfl, z1, z2, n1, hd, q⟩ := h; rfl
  · obtain ⟨p, dx, nl, ln, t, ns, rest, rfl, z1, z2, n1, hd, q⟩ := h
    have hu := hu_of hr
    refine ⟨_, PSs.nox (pss_cons (ps_set (i := 1) sc_CodeReader_pairs.nd rfl (Or.inl rfl) (pe_mt0 (ok_CodeReader_number (P := P) (K := K) W) (hr.mono (by decide)) (pv 0)))
      (pss_cons (ps_if (pt_cmpR op_gt (pe_op op_mul pe_int (pv 1)) (pe_op op_sub (pe_callB call_len_seq (by rfl) W.f_len boot_len (pa_cons (pe_get W.c_CodeReader W.n_CodeReader_numbers RCodeReader.l_numbers (pv 0)) pa_nil)) (pe_get W.c_CodeReader W.n_CodeReader_at RCodeReader.l_at_ (pv 0))) (nomark _)) (pss_one ps_never) pss_nil)
      (pss_one (ps_ret (pe_lc (own := [("_", 2)]) (g := gName 2) (tt := tYes) rfl sc_CodeReader_pairs.nd (pi_range1 rfl W.f_range (pa_cons (pv 1) pa_nil)) (blkOk_by (own := [("_", 2)]) (N := N_CodeReader_pairs) (sc := defScope s_CodeReader_pairs) (by decide +kernel)) (fun _ _ _ _ _ => pg_name (i := 2) sc_CodeReader_pairs.nd rfl (Or.inl rfl)) (fun _ _ _ _ _ => pts_nil) (fun _ _ _ _ _ => (pe_tup (pa_cons (pe_mt0 (ok_CodeReader_number (P := P) (K := K) W) (hr.mono (by decide)) (pv 0)) (pa_cons (pe_mt0 (ok_CodeReader_number (P := P) (K := K) W) (hr.mono (by decide)) (pv 0)) pa_nil))))))))), ?_⟩
    walk_at "s"
    rename_i t9 H9 e9 h9 d9 l9
    refine br_f (decide_eq_false (by simp; omega)) ?_
    walk_at "s"
    rename_i Dl fD
    refine c_lcR (n := 0) (by simp) (by omega) (fun i ys H' => ys = [] ∧ H' = upd H9 Dl (.lst [])) ⟨rfl, rfl⟩ (fun _ => rfl) ?_ ?_
    · intro i ys H' hi
      exact absurd hi (Nat.not_lt_zero _)
    · rintro ys H' ⟨rfl, rfl⟩ hD hl
      exact q t9 Dl _ (by walk_at "fresh") (by walk_at "kp") (by walk_at "look") d9 l9 (by walk_at "rl")
theorem ok_CodeReader_pairs (W : Wld K mg) : MFn P w K mg base (He.ga K "CodeReader") "pairs" 3 ["self"] [] (spPairs0 K) := by
  obtain ⟨fd, F1, F⟩ := fo_CodeReader_pairs (P := P) (w := w) (base := base) W
  exact ⟨⟨_, fd, [], W.c_CodeReader, W.m_CodeReader_pairs, F1, F.bindsN fun _ _ _ _ _ _ us hl => match us, hl with | [_], _ => rfl, .nil⟩⟩
theorem u_Pairs0 {p dx nl : Addr} {ln : Int} {t : Nat} {ns rest : List Int} {H : Hp} {Q : VK} (h1 : RdA K H p dx nl ln t) (h2 : H nl = some (.lst (nis ns))) (n1 : nl ≠ p) (hd : ns.drop t = 0 :: rest) (q : RRdL K p dx nl ln ns rest [] H Q) : spPairs0 K [.ref p] H Q E0 := ⟨p, dx, nl, ln, t, ns, rest, rfl, h1, h2, n1, hd, q⟩
end
end
/-! part D17 -/
section
set_option maxHeartbeats 4000000
open PySem PySem.Spec PyProof.Rows L2 ClX

section
variable {P : Program} [PrOk P] {w : World} {K : PySem.W.Frag} {mg : Str → Option Value} {base : Heap}
def mayN : V → List Int
  | .int n => [1, n]
  | _ => [0]
def spWMaybe : Sp := fun vs H Q _ => ∃ v : V, vs = [v] ∧ (v = .non ∨ ∃ n, v = .int n) ∧ RL (nis (mayN v)) H Q
abbrev N_write_maybe : List Str := ["number"]
theorem sc_write_maybe : FnScope N_write_maybe ["number"] (defScope s_write_maybe) := ⟨rfl, rfl, rfl, by decide +kernel, rfl, by decide +kernel, by decide +kernel⟩
theorem fo_write_maybe (W : Wld K mg) : ∃ fd, FnOk P w K mg base CX0 1 (pl_write_maybe.ad K) fd ["number"] spWMaybe ∧ FunD K "write_maybe" "write_maybe" (defArgs s_write_maybe) (defBody s_write_maybe) (defScope s_write_maybe) [] [] (pl_write_maybe.ad K) fd := by
  obtain ⟨fd, F⟩ := W.d_write_maybe
  refine ⟨fd, F.ok sc_write_maybe (fun vs H Q E h => ?_) (fun cdv A outer s H vs Q E hr h => ?_), F⟩
  · obtain ⟨v, rfl, hv, q⟩ := h; rfl
  · obtain ⟨v, rfl, hv, q⟩ := h
    have hu := hu_of hr
    refine ⟨_, PSs.nox (pss_cons (ps_if (pt_cmpR op_isN (pv 0) pe_non (nomark _)) (pss_one (ps_ret (pe_lst (pa_cons pe_int pa_nil)))) pss_nil)
      (pss_one (ps_ret (pe_lst (pa_cons pe_int (pa_cons (pv 0) pa_nil)))))), ?_⟩
    rcases hv with rfl | ⟨n, rfl⟩
    · walk_at "s"
      exact q _ _ (by walk_at "fresh") (by walk_at "same") (by walk_at "rl")
    · walk_at "s"
      exact q _ _ (by walk_at "fresh") (by walk_at "same") (by walk_at "rl")
theorem ok_write_maybe (W : Wld K mg) : GFn P w K mg base "write_maybe" 1 ["number"] spWMaybe := by
  obtain ⟨fd, F1, F⟩ := fo_write_maybe (P := P) (w := w) (base := base) W
  exact ⟨⟨_, fd, F1, W.g_write_maybe, F.kp, F.bindsN fun _ _ _ _ _ _ us hl => match us, hl with | [_], _ => rfl⟩⟩
theorem u_WMaybe0 {H : Hp} {Q : VK} (q : RL (nis [0]) H Q) : spWMaybe [.non] H Q E0 := ⟨.non, rfl, .inl rfl, q⟩
theorem u_WMaybe1 {n : Int} {H : Hp} {Q : VK} (q : RL (nis [1, n]) H Q) : spWMaybe [.int n] H Q E0 := ⟨.int n, rfl, .inr ⟨n, rfl⟩, q⟩
def spWMany : Sp := fun vs H Q _ => ∃ (a : Addr) (ns : List Int), vs = [.ref a] ∧ H a = some (.lst (nis ns)) ∧ ns.length ≤ 10000 ∧ RL (nis ((ns.length : Int) :: ns)) H Q
local macro_rules | `(tactic| walk_at "sz") => `(tactic| (simp only [List.length_map, List.length_append, List.length_cons, List.length_nil, sizeLine_eq]; omega))
abbrev N_write_many : List Str := ["numbers"]
theorem sc_write_many : FnScope N_write_many ["numbers"] (defScope s_write_many) := ⟨rfl, rfl, rfl, by decide +kernel, rfl, by decide +kernel, by decide +kernel⟩
theorem fo_write_many (W : Wld K mg) : ∃ fd, FnOk P w K mg base CX0 1 (pl_write_many.ad K) fd ["numbers"] spWMany ∧ FunD K "write_many" "write_many" (defArgs s_write_many) (defBody s_write_many) (defScope s_write_many) [] [] (pl_write_many.ad K) fd := by
  obtain ⟨fd, F⟩ := W.d_write_many
  refine ⟨fd, F.ok sc_write_many (fun vs H Q E h => ?_) (fun cdv A outer s H vs Q E hr h => ?_), F⟩
  · obtain ⟨a, ns, rfl, z1, l1, q⟩ := h; rfl
  · obtain ⟨a, ns, rfl, z1, l1, q⟩ := h
    have hu := hu_of hr
    refine ⟨_, PSs.nox (pss_one (ps_ret (pe_op op_cat (pe_lst (pa_cons (pe_callB call_len_seq (by rfl) W.f_len boot_len (pa_cons (pv 0) pa_nil)) pa_nil)) (pe_callTy call_list_of (by rfl) W.f_list bt_list (pa_cons (pv 0) pa_nil))))), ?_⟩
    walk_at "s"
    exact q _ _ (by walk_at "fresh") (by walk_at "same") (by walk_at "rl")
theorem ok_write_many (W : Wld K mg) : GFn P w K mg base "write_many" 1 ["numbers"] spWMany := by
  obtain ⟨fd, F1, F⟩ := fo_write_many (P := P) (w := w) (base := base) W
  exact ⟨⟨_, fd, F1, W.g_write_many, F.kp, F.bindsN fun _ _ _ _ _ _ us hl => match us, hl with | [_], _ => rfl⟩⟩
theorem u_WMany {a : Addr} {xs : List V} {ns : List Int} {H : Hp} {Q : VK} (h : H a = some (.lst xs)) (e : xs = nis ns) (l : ns.length ≤ 10000) (q : RL (nis ((ns.length : Int) :: ns)) H Q) : spWMany [.ref a] H Q E0 := ⟨a, ns, rfl, lk_eq h e, l, q⟩
def spWPairs0 : Sp := fun vs H Q _ => ∃ (a : Addr), vs = [.ref a] ∧ H a = some (.lst []) ∧ RL (nis [0]) H Q
abbrev N_write_pairs : List Str := ["pairs", "numbers", "first", "second"]
theorem sc_write_pairs : FnScope N_write_pairs ["pairs"] (defScope s_write_pairs) := ⟨rfl, rfl, rfl, by decide +kernel, rfl, by decide +kernel, by decide +kernel⟩
theorem fo_write_pairs (W : Wld K mg) : ∃ fd, FnOk P w K mg base CX0 1 (pl_write_pairs.ad K) fd ["pairs"] spWPairs0 ∧ FunD K "write_pairs" "write_pairs" (defArgs s_write_pairs) (defBody s_write_pairs) (defScope s_write_pairs) [] [] (pl_write_pairs.ad K) fd := by
  obtain ⟨fd, F⟩ := W.d_write_pairs
  refine ⟨fd, F.ok sc_write_pairs (fun vs H Q E h => ?_) (fun cdv A outer s H vs Q E hr h => ?_), F⟩
  · obtain ⟨a, rfl, z1, q⟩ := h; rfl
  · obtain ⟨a, rfl, z1, q⟩ := h
    have hu := hu_of hr
    refine ⟨_, PSs.nox (pss_cons (ps_set (i := 1) sc_write_pairs.nd rfl (Or.inl rfl) (pe_lst (pa_cons (pe_callB call_len_seq (by rfl) W.f_len boot_len (pa_cons (pv 0) pa_nil)) pa_nil)))
      (pss_cons (ps_for PassesOwn.never rfl (pi_list (pv 0)) (pg_tup (n := 2) rfl (pgs_cons (pg_name (i := 2) sc_write_pairs.nd rfl (Or.inl rfl)) (pgs_cons (pg_name (i := 3) sc_write_pairs.nd rfl (Or.inl rfl)) pgs_nil))) (pss_one (ps_set (i := 1) sc_write_pairs.nd rfl (Or.inl rfl) (pe_op op_cat (pv 1) (pe_lst (pa_cons (pv 2) (pa_cons (pv 3) pa_nil)))))))
      (pss_one (ps_ret (pv 1))))), ?_⟩
    walk_at "s"
    rename_i p fp
    refine c_loopL (xs := []) (fun i σ H' => Same H H' ∧ H' p = some (.lst (nis [0])) ∧ ∃ u v w, σ = [some (.ref a), some (.ref p), u, v] ++ w) ?_ ?_ ?_ ?_
    · exact ⟨by walk_at "same", by walk_at "rl", none, none, [], rfl⟩
    · rintro i σ H' ⟨e, _⟩
      walk_at "look"
    · intro i x σ H' hx
      simp at hx
    · rintro σ H' ⟨e, h, u, v, w, rfl⟩
      walk_at "s"
      exact q p H' fp e h
theorem ok_write_pairs (W : Wld K mg) : GFn P w K mg base "write_pairs" 1 ["pairs"] spWPairs0 := by
  obtain ⟨fd, F1, F⟩ := fo_write_pairs (P := P) (w := w) (base := base) W
  exact ⟨⟨_, fd, F1, W.g_write_pairs, F.kp, F.bindsN fun _ _ _ _ _ _ us hl => match us, hl with | [_], _ => rfl⟩⟩
theorem u_WPairs0 {a : Addr} {H : Hp} {Q : VK} (h : H a = some (.lst [])) (q : RL (nis [0]) H Q) : spWPairs0 [.ref a] H Q E0 := ⟨a, rfl, h, q⟩
local macro_rules | `(tactic| walk_at "nis") => `(tactic| first
  | (with_reducible exact Eq.refl (nis _))
  | (with_reducible refine' nis_cons ?k1; (case k1 => walk_at "nis"))
  | exact nis_nil
  | (with_reducible refine' nis_app ?k1 ?k2; (case k1 => walk_at "nis"); (case k2 => walk_at "nis")))
local macro_rules | `(tactic| walk_at "s1") => `(tactic| first
  | (show spWMaybe [.non] _ _ _; refine u_WMaybe0 ?_)
  | (show spWMaybe [.int _] _ _ _; refine u_WMaybe1 ?_)
  | (show spWMany _ _ _ _; refine' u_WMany ?k1 ?k2 ?k3 ?k4; (case k1 => walk_at "look"); (case k2 => walk_at "nis"); (case k3 => first | omega | (simp; done) | (simp; omega)))
  | (show spWPairs0 _ _ _ _; refine' u_WPairs0 ?k1 ?k2; (case k1 => walk_at "look")))
def senN (d : EndD) : List Int := [0, d.nxt, d.octs.length, b2i d.fin, 1, 0, 0, 0, 0, d.octs.length] ++ d.octs ++ [0]
def spWSender (K : PySem.W.Frag) : Sp := fun vs H Q _ => ∃ (o : OptD) (A : EA) (d : EndD), vs = [.ref A.s] ∧ SAt K H o A d ∧ H A.q = some (.lst (nis d.octs)) ∧ H A.k = some (.lst []) ∧ d.octs.length ≤ 1000 ∧ RL (nis (senN d)) H Q
abbrev N_write_sender : List Str := ["sender", "numbers"]
theorem sc_write_sender : FnScope N_write_sender ["sender"] (defScope s_write_sender) := ⟨rfl, rfl, rfl, by decide +kernel, rfl, by decide +kernel, by decide +kernel⟩
theorem fo_write_sender (W : Wld K mg) : ∃ fd, FnOk P w K mg base CX0 2 (pl_write_sender.ad K) fd ["sender"] (spWSender K) ∧ FunD K "write_sender" "write_sender" (defArgs s_write_sender) (defBody s_write_sender) (defScope s_write_sender) [] [] (pl_write_sender.ad K) fd := by
  obtain ⟨fd, F⟩ := W.d_write_sender
  refine ⟨fd, F.ok sc_write_sender (fun vs H Q E h => ?_) (fun cdv A outer s H vs Q E hr h => ?_), F⟩
  · obtain ⟨o, A', d, rfl, z1, z2, z3, l1, q⟩ := h; rfl
  · obtain ⟨o, A', d, rfl, z1, z2, z3, l1, q⟩ := h
    have hu := hu_of hr
    refine ⟨_, PSs.nox (pss_cons (ps_set (i := 1) sc_write_sender.nd rfl (Or.inl rfl) (pe_lst (pa_cons (pe_get W.c_Sender W.n_Sender_una RSender.l_una (pv 0)) (pa_cons (pe_get W.c_Sender W.n_Sender_nxt RSender.l_nxt (pv 0)) (pa_cons (pe_get W.c_Sender W.n_Sender_written RSender.l_written (pv 0)) (pa_cons (pe_callTy call_int1 (by rfl) W.f_int bt_int (pa_cons (pe_get W.c_Sender W.n_Sender_finished RSender.l_finished (pv 0)) pa_nil)) (pa_cons (pe_get W.c_Sender W.n_Sender_edge RSender.l_edge (pv 0)) pa_nil)))))))
      (pss_cons (ps_set (i := 1) sc_write_sender.nd rfl (Or.inl rfl) (pe_op op_cat (pe_op op_cat (pv 1) (pe_fn (ok_write_maybe (P := P) (K := K) W) (hr.mono (by decide)) (by rfl) (pa_cons (pe_get W.c_Sender W.n_Sender_recovery RSender.l_recovery (pv 0)) pa_nil))) (pe_lst (pa_cons (pe_get W.c_Sender W.n_Sender_resend RSender.l_resend (pv 0)) (pa_cons (pe_get W.c_Sender W.n_Sender_lost RSender.l_lost (pv 0)) (pa_cons (pe_get W.c_Sender W.n_Sender_repeated RSender.l_repeated (pv 0)) pa_nil))))))
      (pss_one (ps_ret (pe_op op_cat (pe_op op_cat (pv 1) (pe_fn (ok_write_many (P := P) (K := K) W) (hr.mono (by decide)) (by rfl) (pa_cons (pe_get W.c_Sender W.n_Sender__queue RSender.l_queue (pv 0)) pa_nil))) (pe_fn (ok_write_pairs (P := P) (K := K) W) (hr.mono (by decide)) (by rfl) (pa_cons (pe_get W.c_Sender W.n_Sender__sacked RSender.l_sacked (pv 0)) pa_nil))))))), ?_⟩
    walk_at "s"
    exact q _ _ (by walk_at "fresh") (by walk_at "same") (lk_eq (by walk_at "look") (by simp [senN]))
theorem ok_write_sender (W : Wld K mg) : GFn P w K mg base "write_sender" 2 ["sender"] (spWSender K) := by
  obtain ⟨fd, F1, F⟩ := fo_write_sender (P := P) (w := w) (base := base) W
  exact ⟨⟨_, fd, F1, W.g_write_sender, F.kp, F.bindsN fun _ _ _ _ _ _ us hl => match us, hl with | [_], _ => rfl⟩⟩
theorem u_WSender {o : OptD} {A : EA} {d : EndD} {H : Hp} {Q : VK} (h1 : SAt K H o A d) (h2 : H A.q = some (.lst (nis d.octs))) (h3 : H A.k = some (.lst [])) (l : d.octs.length ≤ 1000) (q : RL (nis (senN d)) H Q) : spWSender K [.ref A.s] H Q E0 := ⟨o, A, d, rfl, h1, h2, h3, l, q⟩
def recN (o : OptD) : List Int := [0, o.room + 1, 0, 0, 0, 0]
def spWReceiver (K : PySem.W.Frag) : Sp := fun vs H Q _ => ∃ (o : OptD) (A : EA), vs = [.ref A.r] ∧ RAt K H o A ∧ H A.y = some (.lst []) ∧ H A.h = some (.dK []) ∧ RL (nis (recN o)) H Q
abbrev N_write_receiver : List Str := ["receiver", "held", "numbers", "offset"]
theorem sc_write_receiver : FnScope N_write_receiver ["receiver"] (defScope s_write_receiver) := ⟨rfl, rfl, rfl, by decide +kernel, rfl, by decide +kernel, by decide +kernel⟩
theorem fo_write_receiver (W : Wld K mg) : ∃ fd, FnOk P w K mg base CX0 2 (pl_write_receiver.ad K) fd ["receiver"] (spWReceiver K) ∧ FunD K "write_receiver" "write_receiver" (defArgs s_write_receiver) (defBody s_write_receiver) (defScope s_write_receiver) [] [] (pl_write_receiver.ad K) fd := by
  obtain ⟨fd, F⟩ := W.d_write_receiver
  refine ⟨fd, F.ok sc_write_receiver (fun vs H Q E h => ?_) (fun cdv A outer s H vs Q E hr h => ?_), F⟩
  · obtain ⟨o, A', rfl, z1, z2, z3, q⟩ := h; rfl
  · obtain ⟨o, A', rfl, z1, z2, z3, q⟩ := h
    have hu := hu_of hr
    refine ⟨_, PSs.nox (pss_cons (ps_setLc (i := 1) (own := [("offset", 3)]) (g := gName 3) (tt := tYes) rfl sc_write_receiver.nd rfl rfl (sw_true rfl rfl rfl (by decide +kernel)) (pi_list (pe_callB (call_sortedDI rfl) (by rfl) W.f_sorted bt_sorted (pa_cons (pe_get W.c_Receiver W.n_Receiver__held RReceiver.l_held (pv 0)) pa_nil))) (blkOk_by (own := [("offset", 3)]) (N := N_write_receiver) (sc := defScope s_write_receiver) (by decide +kernel)) (fun _ _ _ _ _ => pg_name (i := 3) sc_write_receiver.nd rfl (Or.inl rfl)) (fun _ _ _ _ _ => pts_nil) (fun _ _ _ _ _ => (pe_tup (pa_cons (pv 3) (pa_cons (pe_dget hu (pe_get W.c_Receiver W.n_Receiver__held RReceiver.l_held (pv 0)) (pv 3) (fun _ _ => rfl)) pa_nil)))))
      (pss_cons (ps_set (i := 2) sc_write_receiver.nd rfl (Or.inl rfl) (pe_op op_cat (pe_op op_cat (pe_lst (pa_cons (pe_get W.c_Receiver W.n_Receiver_nxt RReceiver.l_nxt (pv 0)) (pa_cons (pe_get W.c_Receiver W.n_Receiver_edge RReceiver.l_edge (pv 0)) pa_nil))) (pe_fn (ok_write_maybe (P := P) (K := K) W) (hr.mono (by decide)) (by rfl) (pa_cons (pe_get W.c_Receiver W.n_Receiver_end RReceiver.l_end_ (pv 0)) pa_nil))) (pe_lst (pa_cons (pe_get W.c_Receiver W.n_Receiver_recent RReceiver.l_recent (pv 0)) pa_nil))))
      (pss_one (ps_ret (pe_op op_cat (pe_op op_cat (pv 2) (pe_fn (ok_write_many (P := P) (K := K) W) (hr.mono (by decide)) (by rfl) (pa_cons (pe_get W.c_Receiver W.n_Receiver__ready RReceiver.l_ready (pv 0)) pa_nil))) (pe_fn (ok_write_pairs (P := P) (K := K) W) (hr.mono (by decide)) (by rfl) (pa_cons (pv 1) pa_nil))))))), ?_⟩
    walk_at "s"
    refine ⟨A'.h, [], [], rfl, Rd.of z3, rfl, by decide, fun ys p hp _ fp => ?_⟩
    have hy : ys = [] := List.perm_nil.mp hp
    subst hy
    have hp2 : upd H p (.lst (([] : List Int).map V.int)) p = some (.lst []) := upd_same
    refine ⟨p, rfl, ⟨[], SqL.of hp2⟩, fun Dl fD => ?_⟩
    refine c_mapV (xs := []) [] rfl hp2 (by decide) fD ?_ ?_ ?_
    · exact fun _ => rfl
    · intro i x y H' hx
      simp at hx
    · intro H2 e2 hD
      walk_at "s"
      exact q _ _ (by walk_at "fresh") (by walk_at "same") (lk_eq (by walk_at "look") (by simp [recN]))
theorem ok_write_receiver (W : Wld K mg) : GFn P w K mg base "write_receiver" 2 ["receiver"] (spWReceiver K) := by
  obtain ⟨fd, F1, F⟩ := fo_write_receiver (P := P) (w := w) (base := base) W
  exact ⟨⟨_, fd, F1, W.g_write_receiver, F.kp, F.bindsN fun _ _ _ _ _ _ us hl => match us, hl with | [_], _ => rfl⟩⟩
theorem u_WReceiver {o : OptD} {A : EA} {H : Hp} {Q : VK} (h1 : RAt K H o A) (h2 : H A.y = some (.lst [])) (h3 : H A.h = some (.dK [])) (q : RL (nis (recN o)) H Q) : spWReceiver K [.ref A.r] H Q E0 := ⟨o, A, rfl, h1, h2, h3, q⟩
def triN (o : OptD) : List Int := [0, 0, o.wait, 0]
def spWTrip (K : PySem.W.Frag) : Sp := fun vs H Q _ => ∃ (o : OptD) (A : EA), vs = [.ref A.t] ∧ TAt K H o A ∧ RL (nis (triN o)) H Q
abbrev N_write_trip : List Str := ["trip"]
theorem sc_write_trip : FnScope N_write_trip ["trip"] (defScope s_write_trip) := ⟨rfl, rfl, rfl, by decide +kernel, rfl, by decide +kernel, by decide +kernel⟩
theorem fo_write_trip (W : Wld K mg) : ∃ fd, FnOk P w K mg base CX0 1 (pl_write_trip.ad K) fd ["trip"] (spWTrip K) ∧ FunD K "write_trip" "write_trip" (defArgs s_write_trip) (defBody s_write_trip) (defScope s_write_trip) [] [] (pl_write_trip.ad K) fd := by
  obtain ⟨fd, F⟩ := W.d_write_trip
  refine ⟨fd, F.ok sc_write_trip (fun vs H Q E h => ?_) (fun cdv A outer s H vs Q E hr h => ?_), F⟩
  · obtain ⟨o, A', rfl, z1, q⟩ := h; rfl
  · obtain ⟨o, A', rfl, z1, q⟩ := h
    have hu := hu_of hr
    refine ⟨_, PSs.nox (pss_one (ps_ret (pe_lst (pa_cons (pe_get W.c_RoundTrip W.n_RoundTrip_srtt RRoundTrip.l_srtt (pv 0)) (pa_cons (pe_get W.c_RoundTrip W.n_RoundTrip_variance RRoundTrip.l_variance (pv 0)) (pa_cons (pe_get W.c_RoundTrip W.n_RoundTrip_rto RRoundTrip.l_rto (pv 0)) (pa_cons (pe_callTy call_int1 (by rfl) W.f_int bt_int (pa_cons (pe_get W.c_RoundTrip W.n_RoundTrip_measured RRoundTrip.l_measured (pv 0)) pa_nil)) pa_nil))))))), ?_⟩
    walk_at "s"
    exact q _ _ (by walk_at "fresh") (by walk_at "same") (lk_eq (by walk_at "look") (by simp [triN]))
theorem ok_write_trip (W : Wld K mg) : GFn P w K mg base "write_trip" 1 ["trip"] (spWTrip K) := by
  obtain ⟨fd, F1, F⟩ := fo_write_trip (P := P) (w := w) (base := base) W
  exact ⟨⟨_, fd, F1, W.g_write_trip, F.kp, F.bindsN fun _ _ _ _ _ _ us hl => match us, hl with | [_], _ => rfl⟩⟩
theorem u_WTrip {o : OptD} {A : EA} {H : Hp} {Q : VK} (h1 : TAt K H o A) (q : RL (nis (triN o)) H Q) : spWTrip K [.ref A.t] H Q E0 := ⟨o, A, rfl, h1, q⟩
end
end
/-! part D18 -/
section
set_option maxHeartbeats 4000000
open PySem PySem.Spec PyProof.Rows L2 ClX

section
variable {P : Program} [PrOk P] {w : World} {K : PySem.W.Frag} {mg : Str → Option Value} {base : Heap}
local macro_rules | `(tactic| walk_at "nis") => `(tactic| first
  | (with_reducible exact Eq.refl (nis _))
  | (with_reducible refine' nis_cons ?k1; (case k1 => walk_at "nis"))
  | exact nis_nil
  | (with_reducible refine' nis_app ?k1 ?k2; (case k1 => walk_at "nis"); (case k2 => walk_at "nis")))
local macro_rules | `(tactic| walk_at "sz") => `(tactic| (simp only [List.length_map, List.length_append, List.length_cons, List.length_nil, sizeLine_eq]; omega))
local macro_rules | `(tactic| walk_at "s1") => `(tactic| first
  | (with_reducible refine c_fld ?_)
  | ((with_reducible refine' c_fldl ?k1 ?k2 ?k3 ?k4 ?k5); (case k1 => walk_at "look"); (case k2 => assumption); (case k3 => assumption); (case k4 => with_reducible first | exact RReno.l_cwnd _ | exact RReno.l_thresh _ | exact RReno.l_peak _ | exact RReno.l_prior _ | exact RReno.l_calm _ | exact RReno.l_credit _ | exact RCubic.l_cwnd _ | exact RCubic.l_thresh _ | exact RCubic.l_peak _ | exact RCubic.l_prior _ | exact RCubic.l_calm _ | exact RCubic.l_period _)))
theorem tyo (W : Wld K mg) {x : Str} {a dx : Addr} {fs : List (Str × V)} {H : Hp} (hx : x = "Reno" ∨ x = "Cubic" ∨ x = "Packet" ∨ x = "Options") (h : H a = some (.ins (He.ga K x) dx fs)) : TyX K H (.ref a) (.ref (He.ga K x)) := by
  rcases hx with rfl | rfl | rfl | rfl
  · obtain ⟨t1, t2, t3, t4⟩ := W.ty_Reno
    exact .base (.ins h W.c_Reno t1 t2 t3 t4)
  · obtain ⟨t1, t2, t3, t4⟩ := W.ty_Cubic
    exact .base (.ins h W.c_Cubic t1 t2 t3 t4)
  · obtain ⟨t1, t2, t3, t4⟩ := W.ty_Packet
    exact .base (.ins h W.c_Packet t1 t2 t3 t4)
  · obtain ⟨t1, t2, t3, t4⟩ := W.ty_Options
    exact .base (.ins h W.c_Options t1 t2 t3 t4)
theorem c_isi {a C D : Addr} {b : Bool} {H : Hp} {Q : VK} (t : TyX K H (.ref a) (.ref C)) (k : PySem.W.kitOne K (.ref C) (.ref D) = some b) (q : Q (.bl b) H) : rIsi K [.ref a, .ref D] H Q := ⟨.ref a, .ref D, .ref C, .ref D, b, rfl, .own D, t, k, q⟩
def conN (o : OptD) : List Int := [10 * o.mss, 1073741824, 0, 0, 0, 0]
def spWControl (K : PySem.W.Frag) : Sp := fun vs H Q _ => ∃ (o : OptD) (A : EA), vs = [.ref A.c] ∧ CAt K H o A ∧ RL (nis (conN o)) H Q
abbrev N_write_control : List Str := ["control", "numbers"]
theorem sc_write_control : FnScope N_write_control ["control"] (defScope s_write_control) := ⟨rfl, rfl, rfl, by decide +kernel, rfl, by decide +kernel, by decide +kernel⟩
theorem fo_write_control (W : Wld K mg) : ∃ fd, FnOk P w K mg base CX0 1 (pl_write_control.ad K) fd ["control"] (spWControl K) ∧ FunD K "write_control" "write_control" (defArgs s_write_control) (defBody s_write_control) (defScope s_write_control) [] [] (pl_write_control.ad K) fd := by
  obtain ⟨fd, F⟩ := W.d_write_control
  refine ⟨fd, F.ok sc_write_control (fun vs H Q E h => ?_) (fun cdv A outer s H vs Q E hr h => ?_), F⟩
  · obtain ⟨o, A', rfl, z1, q⟩ := h; rfl
  · obtain ⟨o, A', rfl, z1, q⟩ := h
    have hu := hu_of hr
    refine ⟨_, PSs.nox (pss_cons (ps_set (i := 1) sc_write_control.nd rfl (Or.inl rfl) (pe_lst (pa_cons (pe_fld (pv 0) rfl) (pa_cons (pe_fld (pv 0) rfl) (pa_cons (pe_fld (pv 0) rfl) (pa_cons (pe_fld (pv 0) rfl) (pa_cons (pe_fld (pv 0) rfl) pa_nil)))))))
      (pss_cons (ps_if (pt_val (pe_callB call_isi (by rfl) W.f_isinstance bt_isinstance (pa_cons (pv 0) (pa_cons (pe_gref rfl W.g_Reno) pa_nil)))) (pss_one (ps_ret (pe_op op_cat (pv 1) (pe_lst (pa_cons (pe_fld (pv 0) rfl) pa_nil))))) pss_nil)
      (pss_cons (ps_if (pt_cmpR op_isN (pe_fld (pv 0) rfl) pe_non (nomark _)) (pss_one (ps_ret (pe_op op_cat (pv 1) (pe_lst (pa_cons pe_int pa_nil))))) pss_nil)
      pss_never))), ?_⟩
    unfold CAt ctlO at z1
    cases hc : o.cubic
    · rw [hc] at z1
      have z1 : H A'.c = some (.ins (He.ga K "Reno") A'.cd (RReno.fs ⟨.int (10 * o.mss), .int 1073741824, .int 0, .int 0, .int 0, .int 0⟩)) := z1
      have c0 := W.c_Reno
      have c1 := W.n_Reno_cwnd
      have c2 := W.n_Reno_thresh
      have c3 := W.n_Reno_peak
      have c4 := W.n_Reno_prior
      have c5 := W.n_Reno_calm
      have c6 := W.n_Reno_credit
      walk_at "s"
      refine c_isi (b := true) (tyo W (.inl rfl) (by walk_at "look")) W.is_Reno_Reno ?_
      walk_at "s"
      exact q _ _ (by walk_at "fresh") (by walk_at "same") (lk_eq (by walk_at "look") (by simp [conN]))
    · rw [hc] at z1
      have z1 : H A'.c = some (.ins (He.ga K "Cubic") A'.cd (RCubic.fs ⟨.int (10 * o.mss), .int 1073741824, .int 0, .int 0, .int 0, .non⟩)) := z1
      have c0 := W.c_Cubic
      have c1 := W.n_Cubic_cwnd
      have c2 := W.n_Cubic_thresh
      have c3 := W.n_Cubic_peak
      have c4 := W.n_Cubic_prior
      have c5 := W.n_Cubic_calm
      have c6 := W.n_Cubic_period
      walk_at "s"
      refine c_isi (b := false) (tyo W (.inr (.inl rfl)) (by walk_at "look")) W.is_Cubic_Reno ?_
      walk_at "s"
      exact q _ _ (by walk_at "fresh") (by walk_at "same") (lk_eq (by walk_at "look") (by simp [conN]))
theorem ok_write_control (W : Wld K mg) : GFn P w K mg base "write_control" 1 ["control"] (spWControl K) := by
  obtain ⟨fd, F1, F⟩ := fo_write_control (P := P) (w := w) (base := base) W
  exact ⟨⟨_, fd, F1, W.g_write_control, F.kp, F.bindsN fun _ _ _ _ _ _ us hl => match us, hl with | [_], _ => rfl⟩⟩
theorem u_WControl {o : OptD} {A : EA} {H : Hp} {Q : VK} (h1 : CAt K H o A) (q : RL (nis (conN o)) H Q) : spWControl K [.ref A.c] H Q E0 := ⟨o, A, rfl, h1, q⟩
theorem sqt_ty (W : Wld K mg) {x : Str} (hx : x = "PHASES" ∨ x = "CAUSES" ∨ x = "CONTROLS") : ∃ o, K.lookup (He.ga K x) = some o ∧ o.cls = .type "tuple" ∧ o.dict = none := by
  rcases hx with rfl | rfl | rfl
  · exact W.tt_PHASES
  · exact W.tt_CAUSES
  · exact W.tt_CONTROLS
theorem c_tyT {p : Addr} {H : Hp} {B : Prop} (h : ∃ o, K.lookup p = some o ∧ o.cls = .type "tuple" ∧ o.dict = none) (k : B) : tyV K "tuple" (.ref p) H ∧ B := ⟨.inr (.inl ⟨rfl, h⟩), k⟩
theorem c_tupix {p : Addr} {ys : List Str} {x : V} {z : Str} (j : Nat) {H : Hp} {Rq : Nat → Prop} (hx : x = .str z) (h : SqT K H p (ys.map V.str)) (e : ys[j]? = some z) (n : ∀ m, m < j → ys[m]? ≠ some z) (q : Rq j) :
    ∃ p', ∃ ys' : List Str, ∃ z' j', V.ref p = .ref p' ∧ [x] = [V.str z'] ∧ SqT K H p' (ys'.map V.str) ∧ ys'[j']? = some z' ∧ (∀ m, m < j' → ys'[m]? ≠ some z') ∧ Rq j' := ⟨p, ys, z, j, rfl, by rw [hx], h, e, n, q⟩
theorem senN_len (d : EndD) : (senN d).length = d.octs.length + 11 := by simp [senN]
theorem recN_len (o : OptD) : (recN o).length = 6 := rfl
theorem triN_len (o : OptD) : (triN o).length = 4 := rfl
theorem conN_len (o : OptD) : (conN o).length = 6 := rfl
local macro_rules | `(tactic| walk_at "sz") => `(tactic| (simp only [senN_len, recN_len, triN_len, conN_len, List.length_map, List.length_append, List.length_cons, List.length_nil, sizeLine_eq]; omega))
def EndD.phN (d : EndD) : List Int := if d.ab = true then [9, 5] else [0]
def endN (o : OptD) (d : EndD) : List Int := d.phN ++ [o.mss, 0] ++ senN d ++ recN o ++ triN o ++ conN o ++ mayN d.alarm ++ [d.since] ++ [0] ++ [0, 0, 0, 0] ++ [0, 0, d.at_, 0, 0] ++ [0, 0]
def spWEnd (K : PySem.W.Frag) : Sp := fun vs H Q _ => ∃ (oa : Addr) (o : OptD) (A : EA) (d : EndD) (z : Int), vs = [.ref A.e] ∧ EndOK K H oa o A d ∧ d.alarm = .int z ∧ d.octs.length ≤ 1000 ∧ RL (nis (endN o d)) H Q
local macro_rules | `(tactic| walk_at "s1") => `(tactic| first
  | (show spWMaybe [.non] _ _ _; refine u_WMaybe0 ?_)
  | (show spWMaybe [.int _] _ _ _; refine u_WMaybe1 ?_)
  | (show spWSender _ _ _ _ _; refine' u_WSender ?k1 ?k2 ?k3 ?k4 ?k5; (case k1 => walk_at "look"); (case k2 => walk_at "look"); (case k3 => walk_at "look"); (case k4 => omega))
  | (show spWReceiver _ _ _ _ _; refine' u_WReceiver ?k1 ?k2 ?k3 ?k4; (case k1 => walk_at "look"); (case k2 => walk_at "look"); (case k3 => walk_at "look"))
  | (show spWTrip _ _ _ _ _; refine' u_WTrip ?k1 ?k2; (case k1 => walk_at "look"))
  | (show spWControl _ _ _ _ _; refine' u_WControl ?k1 ?k2; (case k1 => walk_at "look")))
abbrev N_write_endpoint : List Str := ["end", "numbers"]
theorem sc_write_endpoint : FnScope N_write_endpoint ["end"] (defScope s_write_endpoint) := ⟨rfl, rfl, rfl, by decide +kernel, rfl, by decide +kernel, by decide +kernel⟩
theorem fo_write_endpoint (W : Wld K mg) : ∃ fd, FnOk P w K mg base CX0 3 (pl_write_endpoint.ad K) fd ["end"] (spWEnd K) ∧ FunD K "write_endpoint" "write_endpoint" (defArgs s_write_endpoint) (defBody s_write_endpoint) (defScope s_write_endpoint) [] [] (pl_write_endpoint.ad K) fd := by
  obtain ⟨fd, F⟩ := W.d_write_endpoint
  refine ⟨fd, F.ok sc_write_endpoint (fun vs H Q E h => ?_) (fun cdv A outer s H vs Q E hr h => ?_), F⟩
  · obtain ⟨oa, o, A', d, z, rfl, ⟨x1, x2, x3, x4, x5, x6, x7, x8, x9⟩, ha, l1, q⟩ := h; rfl
  · obtain ⟨oa, o, A', d, z, rfl, ⟨x1, x2, x3, x4, x5, x6, x7, x8, x9⟩, ha, l1, q⟩ := h
    have hu := hu_of hr
    refine ⟨_, PSs.nox (pss_cons (ps_set (i := 1) sc_write_endpoint.nd rfl (Or.inl rfl) (pe_lst (pa_cons (pe_bm PySem.F.plainAttrs_tuple PySem.F.slot_tuple_index PySem.F.type_tuple_index mt_tup_index (pe_gref rfl W.g_PHASES) (pa_cons (pe_get W.c_Endpoint W.n_Endpoint_phase REndpoint.l_phase (pv 0)) pa_nil)) pa_nil)))
      (pss_cons (ps_if (pt_cmpR op_eq (pe_get W.c_Endpoint W.n_Endpoint_phase REndpoint.l_phase (pv 0)) pe_str (nomark _)) (pss_one (ps_set (i := 1) sc_write_endpoint.nd rfl (Or.inl rfl) (pe_op op_cat (pv 1) (pe_lst (pa_cons (pe_bm PySem.F.plainAttrs_tuple PySem.F.slot_tuple_index PySem.F.type_tuple_index mt_tup_index (pe_gref rfl W.g_CAUSES) (pa_cons (pe_get W.c_Endpoint W.n_Endpoint_cause REndpoint.l_cause (pv 0)) pa_nil)) pa_nil))))) pss_nil)
      (pss_cons (ps_set (i := 1) sc_write_endpoint.nd rfl (Or.inl rfl) (pe_op op_cat (pe_op op_cat (pe_op op_cat (pv 1) (pe_lst (pa_cons (pe_get W.c_Endpoint W.n_Endpoint_mss REndpoint.l_mss (pv 0)) (pa_cons (pe_callTy call_int1 (by rfl) W.f_int bt_int (pa_cons (pe_get W.c_Endpoint W.n_Endpoint_selective REndpoint.l_selective (pv 0)) pa_nil)) pa_nil)))) (pe_fn (ok_write_sender (P := P) (K := K) W) (hr.mono (by decide)) (by rfl) (pa_cons (pe_get W.c_Endpoint W.n_Endpoint_sender REndpoint.l_sender (pv 0)) pa_nil))) (pe_fn (ok_write_receiver (P := P) (K := K) W) (hr.mono (by decide)) (by rfl) (pa_cons (pe_get W.c_Endpoint W.n_Endpoint_receiver REndpoint.l_receiver (pv 0)) pa_nil))))
      (pss_cons (ps_set (i := 1) sc_write_endpoint.nd rfl (Or.inl rfl) (pe_op op_cat (pe_op op_cat (pe_op op_cat (pe_op op_cat (pv 1) (pe_fn (ok_write_trip (P := P) (K := K) W) (hr.mono (by decide)) (by rfl) (pa_cons (pe_get W.c_Endpoint W.n_Endpoint_trip REndpoint.l_trip (pv 0)) pa_nil))) (pe_fn (ok_write_control (P := P) (K := K) W) (hr.mono (by decide)) (by rfl) (pa_cons (pe_get W.c_Endpoint W.n_Endpoint_control REndpoint.l_control (pv 0)) pa_nil))) (pe_fn (ok_write_maybe (P := P) (K := K) W) (hr.mono (by decide)) (by rfl) (pa_cons (pe_get W.c_Endpoint W.n_Endpoint_alarm REndpoint.l_alarm (pv 0)) pa_nil))) (pe_lst (pa_cons (pe_get W.c_Endpoint W.n_Endpoint_since REndpoint.l_since (pv 0)) pa_nil))))
      (pss_cons (ps_set (i := 1) sc_write_endpoint.nd rfl (Or.inl rfl) (pe_op op_cat (pe_op op_cat (pv 1) (pe_fn (ok_write_maybe (P := P) (K := K) W) (hr.mono (by decide)) (by rfl) (pa_cons (pe_get W.c_Endpoint W.n_Endpoint_ack_at REndpoint.l_ack_at (pv 0)) pa_nil))) (pe_lst (pa_cons (pe_get W.c_Endpoint W.n_Endpoint_late REndpoint.l_late (pv 0)) (pa_cons (pe_callTy call_int1 (by rfl) W.f_int bt_int (pa_cons (pe_get W.c_Endpoint W.n_Endpoint_asked REndpoint.l_asked (pv 0)) pa_nil)) (pa_cons (pe_callTy call_int1 (by rfl) W.f_int bt_int (pa_cons (pe_get W.c_Endpoint W.n_Endpoint_again REndpoint.l_again (pv 0)) pa_nil)) (pa_cons (pe_callTy call_int1 (by rfl) W.f_int bt_int (pa_cons (pe_get W.c_Endpoint W.n_Endpoint_probe REndpoint.l_probe (pv 0)) pa_nil)) pa_nil)))))))
      (pss_cons (ps_set (i := 1) sc_write_endpoint.nd rfl (Or.inl rfl) (pe_op op_cat (pv 1) (pe_lst (pa_cons (pe_callTy call_int1 (by rfl) W.f_int bt_int (pa_cons (pe_get W.c_Endpoint W.n_Endpoint_over REndpoint.l_over (pv 0)) pa_nil)) (pa_cons (pe_get W.c_Endpoint W.n_Endpoint_rest REndpoint.l_rest (pv 0)) (pa_cons (pe_get W.c_Endpoint W.n_Endpoint_spent_at REndpoint.l_spent_at (pv 0)) (pa_cons (pe_get W.c_Endpoint W.n_Endpoint_spent REndpoint.l_spent (pv 0)) (pa_cons (pe_get W.c_Endpoint W.n_Endpoint_stamp REndpoint.l_stamp (pv 0)) pa_nil))))))))
      (pss_one (ps_ret (pe_op op_cat (pv 1) (pe_lst (pa_cons (pe_callTy call_int1 (by rfl) W.f_int bt_int (pa_cons (pe_get W.c_Endpoint W.n_Endpoint_marked REndpoint.l_marked (pv 0)) pa_nil)) (pa_cons (pe_callTy call_int1 (by rfl) W.f_int bt_int (pa_cons (pe_get W.c_Endpoint W.n_Endpoint_cut REndpoint.l_cut (pv 0)) pa_nil)) pa_nil)))))))))))), ?_⟩
    have tP := W.t_PHASES
    have tC := W.t_CAUSES
    obtain ⟨nx, oc, fi, ab, al, si, at9⟩ := d
    have ha : al = .int z := ha
    have l1 : oc.length ≤ 1000 := l1
    subst ha
    cases ab
    · walk_at "s"
      refine c_tyT (sqt_ty W (.inl rfl)) ?_
      walk_at "s"
      refine c_tupix (z := "syn sent") 0 rfl (tP _) rfl (fun m h => absurd h (Nat.not_lt_zero _)) ?_
      walk_at "s"
      exact q _ _ (by walk_at "fresh") (by walk_at "same") (lk_eq (by walk_at "look") (by simp [endN, EndD.phN, mayN]))
    · walk_at "s"
      refine c_tyT (sqt_ty W (.inl rfl)) ?_
      walk_at "s"
      refine c_tupix (z := "ended") 9 rfl (tP _) rfl (by decide) ?_
      walk_at "s"
      refine c_tyT (sqt_ty W (.inr (.inl rfl))) ?_
      walk_at "s"
      refine c_tupix (z := "aborted") 5 rfl (tC _) rfl (by decide) ?_
      walk_at "s"
      exact q _ _ (by walk_at "fresh") (by walk_at "same") (lk_eq (by walk_at "look") (by simp [endN, EndD.phN, mayN]))
theorem ok_write_endpoint (W : Wld K mg) : GFn P w K mg base "write_endpoint" 3 ["end"] (spWEnd K) := by
  obtain ⟨fd, F1, F⟩ := fo_write_endpoint (P := P) (w := w) (base := base) W
  exact ⟨⟨_, fd, F1, W.g_write_endpoint, F.kp, F.bindsN fun _ _ _ _ _ _ us hl => match us, hl with | [_], _ => rfl⟩⟩
theorem u_WEnd {oa : Addr} {o : OptD} {A : EA} {d : EndD} {z : Int} {H : Hp} {Q : VK} (h : EndOK K H oa o A d) (ha : d.alarm = .int z) (l : d.octs.length ≤ 1000) (q : RL (nis (endN o d)) H Q) : spWEnd K [.ref A.e] H Q E0 := ⟨oa, o, A, d, z, rfl, h, ha, l, q⟩
end
end
/-! part D19 -/
section
set_option maxHeartbeats 4000000
open PySem PySem.Spec PyProof.Rows L2 ClX

section
variable {P : Program} [PrOk P] {w : World} {K : PySem.W.Frag} {mg : Str → Option Value} {base : Heap}
local macro_rules | `(tactic| walk_at "sz") => `(tactic| (simp only [List.length_map, List.length_append, List.length_cons, List.length_nil, sizeLine_eq]; omega))
def optN (o : OptD) : List Int := [o.mss, o.room, o.life, o.pace, o.tries, o.mn, o.mx, o.dly, o.alive, b2i o.nagle, b2i o.cubic]
theorem optN_len (o : OptD) : (optN o).length = 11 := rfl
def spWOptsS (K : PySem.W.Frag) : Sp := fun vs H Q _ => ∃ (oa od : Addr) (o : OptD), vs = [.ref oa] ∧ OAt K H oa od o ∧ RL (nis (optN o)) H Q
abbrev N_write_options_saved : List Str := ["options", "sizes", "times"]
theorem sc_write_options_saved : FnScope N_write_options_saved ["options"] (defScope s_write_options_saved) := ⟨rfl, rfl, rfl, by decide +kernel, rfl, by decide +kernel, by decide +kernel⟩
theorem fo_write_options_saved (W : Wld K mg) : ∃ fd, FnOk P w K mg base CX0 1 (pl_write_options_saved.ad K) fd ["options"] (spWOptsS K) ∧ FunD K "write_options" "write_options" (defArgs s_write_options_saved) (defBody s_write_options_saved) (defScope s_write_options_saved) [] [] (pl_write_options_saved.ad K) fd := by
  obtain ⟨fd, F⟩ := W.d_write_options_saved
  refine ⟨fd, F.ok sc_write_options_saved (fun vs H Q E h => ?_) (fun cdv A outer s H vs Q E hr h => ?_), F⟩
  · obtain ⟨oa, od, o, rfl, z1, q⟩ := h; rfl
  · obtain ⟨oa, od, o, rfl, z1, q⟩ := h
    have hu := hu_of hr
    refine ⟨_, PSs.nox (pss_cons (ps_set (i := 1) sc_write_options_saved.nd rfl (Or.inl rfl) (pe_lst (pa_cons (pe_get W.c_Options W.n_Options_mss ROptions.l_mss (pv 0)) (pa_cons (pe_get W.c_Options W.n_Options_room ROptions.l_room (pv 0)) (pa_cons (pe_get W.c_Options W.n_Options_life ROptions.l_life (pv 0)) (pa_cons (pe_get W.c_Options W.n_Options_pace ROptions.l_pace (pv 0)) (pa_cons (pe_get W.c_Options W.n_Options_tries ROptions.l_tries (pv 0)) pa_nil)))))))
      (pss_cons (ps_set (i := 2) sc_write_options_saved.nd rfl (Or.inl rfl) (pe_lst (pa_cons (pe_get W.c_Options W.n_Options_min_rto ROptions.l_min_rto (pv 0)) (pa_cons (pe_get W.c_Options W.n_Options_max_rto ROptions.l_max_rto (pv 0)) (pa_cons (pe_get W.c_Options W.n_Options_ack_delay ROptions.l_ack_delay (pv 0)) (pa_cons (pe_get W.c_Options W.n_Options_keep_alive ROptions.l_keep_alive (pv 0)) pa_nil))))))
      (pss_one (ps_ret (pe_op op_cat (pe_op op_cat (pv 1) (pv 2)) (pe_lst (pa_cons (pe_callTy call_int1 (by rfl) W.f_int bt_int (pa_cons (pe_get W.c_Options W.n_Options_nagle ROptions.l_nagle (pv 0)) pa_nil)) (pa_cons (pe_bm PySem.F.plainAttrs_tuple PySem.F.slot_tuple_index PySem.F.type_tuple_index mt_tup_index (pe_gref rfl W.g_CONTROLS) (pa_cons (pe_get W.c_Options W.n_Options_control ROptions.l_control (pv 0)) pa_nil)) pa_nil)))))))), ?_⟩
    walk_at "s"
    have tC := W.t_CONTROLS
    refine c_tyT (sqt_ty W (.inr (.inr rfl))) ?_
    walk_at "s"
    have hz : (["reno", "cubic"] : List Str)[if o.cubic = true then 1 else 0]? = some o.ctl := by
      unfold OptD.ctl
      cases o.cubic <;> rfl
    have hn : ∀ m, m < (if o.cubic = true then 1 else 0) → (["reno", "cubic"] : List Str)[m]? ≠ some o.ctl := by
      unfold OptD.ctl
      cases o.cubic <;> decide
    refine c_tupix (z := o.ctl) (if o.cubic = true then 1 else 0) rfl (tC _) hz hn ?_
    walk_at "s"
    have hj : (((if o.cubic = true then 1 else 0 : Nat)) : Int) = b2i o.cubic := by cases o.cubic <;> rfl
    exact q _ _ (by walk_at "fresh") (by walk_at "same") (lk_eq (by walk_at "look") (by rw [hj]; simp [optN]))
theorem ok_write_options_saved (W : Wld K mg) : GFn P w K mg base "write_options_saved" 1 ["options"] (spWOptsS K) := by
  obtain ⟨fd, F1, F⟩ := fo_write_options_saved (P := P) (w := w) (base := base) W
  exact ⟨⟨_, fd, F1, W.g_write_options_saved, F.kp, F.bindsN fun _ _ _ _ _ _ us hl => match us, hl with | [_], _ => rfl⟩⟩
theorem u_WOptsS {oa od : Addr} {o : OptD} {H : Hp} {Q : VK} (h : OAt K H oa od o) (q : RL (nis (optN o)) H Q) : spWOptsS K [.ref oa] H Q E0 := ⟨oa, od, o, rfl, h, q⟩
def sockN (k : SkD) (o : OptD) (d : EndD) : List Int := [k.cnt, k.port, k.peer, k.pp, 0, 0, 0, 0, 0] ++ endN o d
theorem endN_len (o : OptD) (d : EndD) (h : d.octs.length ≤ 1000) : (endN o d).length ≤ 1100 := by
  have : d.phN.length ≤ 2 := by unfold EndD.phN; split <;> simp
  have h2 : (mayN d.alarm).length ≤ 2 := by cases d.alarm <;> simp [mayN]
  simp only [endN, List.length_append, senN_len, recN_len, triN_len, conN_len, List.length_cons, List.length_nil]
  omega
def spWSock (K : PySem.W.Frag) : Sp := fun vs H Q _ => ∃ (oa : Addr) (o : OptD) (x : SkA) (k : SkD) (d : EndD) (z : Int), vs = [.ref x.s] ∧ KAt K H x.s x.sd x.A.e k ∧ EndOK K H oa o x.A d ∧ d.alarm = .int z ∧ d.octs.length ≤ 1000 ∧ RL (nis (sockN k o d)) H Q
local macro_rules | `(tactic| walk_at "s1") => `(tactic| first
  | (show spWMaybe [.non] _ _ _; refine u_WMaybe0 ?_))
abbrev N_write_socket : List Str := ["sock", "numbers"]
theorem sc_write_socket : FnScope N_write_socket ["sock"] (defScope s_write_socket) := ⟨rfl, rfl, rfl, by decide +kernel, rfl, by decide +kernel, by decide +kernel⟩
theorem fo_write_socket (W : Wld K mg) : ∃ fd, FnOk P w K mg base CX0 4 (pl_write_socket.ad K) fd ["sock"] (spWSock K) ∧ FunD K "write_socket" "write_socket" (defArgs s_write_socket) (defBody s_write_socket) (defScope s_write_socket) [] [] (pl_write_socket.ad K) fd := by
  obtain ⟨fd, F⟩ := W.d_write_socket
  refine ⟨fd, F.ok sc_write_socket (fun vs H Q E h => ?_) (fun cdv A outer s H vs Q E hr h => ?_), F⟩
  · obtain ⟨oa, o, x, k, d, z, rfl, z1, x1, ha, l1, q⟩ := h; rfl
  · obtain ⟨oa, o, x, k, d, z, rfl, z1, x1, ha, l1, q⟩ := h
    have hu := hu_of hr
    refine ⟨_, PSs.nox (pss_cons (ps_set (i := 1) sc_write_socket.nd rfl (Or.inl rfl) (pe_op op_cat (pe_lst (pa_cons (pe_get W.c_Socket W.n_Socket_count RSocket.l_count_ (pv 0)) (pa_cons (pe_get W.c_Socket W.n_Socket_port RSocket.l_port (pv 0)) (pa_cons (pe_get W.c_Socket W.n_Socket_peer RSocket.l_peer (pv 0)) (pa_cons (pe_get W.c_Socket W.n_Socket_peer_port RSocket.l_peer_port (pv 0)) pa_nil))))) (pe_fn (ok_write_maybe (P := P) (K := K) W) (hr.mono (by decide)) (by rfl) (pa_cons (pe_get W.c_Socket W.n_Socket_peer_count RSocket.l_peer_count (pv 0)) pa_nil))))
      (pss_cons (ps_set (i := 1) sc_write_socket.nd rfl (Or.inl rfl) (pe_op op_cat (pe_op op_cat (pv 1) (pe_fn (ok_write_maybe (P := P) (K := K) W) (hr.mono (by decide)) (by rfl) (pa_cons (pe_get W.c_Socket W.n_Socket_peer_first RSocket.l_peer_first (pv 0)) pa_nil))) (pe_fn (ok_write_maybe (P := P) (K := K) W) (hr.mono (by decide)) (by rfl) (pa_cons (pe_get W.c_Socket W.n_Socket_peer_shift RSocket.l_peer_shift (pv 0)) pa_nil))))
      (pss_one (ps_ret (pe_op op_cat (pe_op op_cat (pv 1) (pe_lst (pa_cons (pe_callTy call_int1 (by rfl) W.f_int bt_int (pa_cons (pe_get W.c_Socket W.n_Socket_listened RSocket.l_listened (pv 0)) pa_nil)) (pa_cons (pe_callTy call_int1 (by rfl) W.f_int bt_int (pa_cons (pe_get W.c_Socket W.n_Socket_accepted RSocket.l_accepted (pv 0)) pa_nil)) pa_nil)))) (pe_fn (ok_write_endpoint (P := P) (K := K) W) (hr.mono (by decide)) (by rfl) (pa_cons (pe_get W.c_Socket W.n_Socket_endpoint RSocket.l_endpoint (pv 0)) pa_nil))))))), ?_⟩
    walk_at "s"
    obtain ⟨x1, x2, x3, x4, x5, x6, x7, x8, x9⟩ := x1
    have hl := endN_len o d l1
    refine u_WEnd (oa := oa) (o := o) (A := x.A) (d := d) ⟨by walk_at "look", by walk_at "look", by walk_at "look", by walk_at "look", by walk_at "look", by walk_at "look", by walk_at "look", by walk_at "look", by walk_at "look"⟩ ha l1 ?_
    walk_at "s"
    exact q _ _ (by walk_at "fresh") (by walk_at "same") (lk_eq (by walk_at "look") (by simp [sockN]))
theorem ok_write_socket (W : Wld K mg) : GFn P w K mg base "write_socket" 4 ["sock"] (spWSock K) := by
  obtain ⟨fd, F1, F⟩ := fo_write_socket (P := P) (w := w) (base := base) W
  exact ⟨⟨_, fd, F1, W.g_write_socket, F.kp, F.bindsN fun _ _ _ _ _ _ us hl => match us, hl with | [_], _ => rfl⟩⟩
theorem u_WSock {oa : Addr} {o : OptD} {x : SkA} {k : SkD} {d : EndD} {z : Int} {H : Hp} {Q : VK} (h1 : KAt K H x.s x.sd x.A.e k) (h2 : EndOK K H oa o x.A d) (ha : d.alarm = .int z) (l : d.octs.length ≤ 1000) (q : RL (nis (sockN k o d)) H Q) : spWSock K [.ref x.s] H Q E0 := ⟨oa, o, x, k, d, z, rfl, h1, h2, ha, l, q⟩
def pkN (a t : Int) (ns : List Int) : List Int := [a, t, 0, ns.length] ++ ns
def spWPacket (K : PySem.W.Frag) : Sp := fun vs H Q _ => ∃ (p dx oc : Addr) (a t : Int) (ns : List Int), vs = [.ref p] ∧ PkOK K H p dx oc a t ns ∧ ns.length ≤ 1000 ∧ RL (nis (pkN a t ns)) H Q
local macro_rules | `(tactic| walk_at "s1") => `(tactic| first
  | (show spWMany _ _ _ _; refine' u_WMany ?k1 ?k2 ?k3 ?k4; (case k1 => walk_at "look"); (case k2 => exact Eq.refl (nis _)); (case k3 => omega)))
abbrev N_write_packet : List Str := ["packet"]
theorem sc_write_packet : FnScope N_write_packet ["packet"] (defScope s_write_packet) := ⟨rfl, rfl, rfl, by decide +kernel, rfl, by decide +kernel, by decide +kernel⟩
theorem fo_write_packet (W : Wld K mg) : ∃ fd, FnOk P w K mg base CX0 2 (pl_write_packet.ad K) fd ["packet"] (spWPacket K) ∧ FunD K "write_packet" "write_packet" (defArgs s_write_packet) (defBody s_write_packet) (defScope s_write_packet) [] [] (pl_write_packet.ad K) fd := by
  obtain ⟨fd, F⟩ := W.d_write_packet
  refine ⟨fd, F.ok sc_write_packet (fun vs H Q E h => ?_) (fun cdv A outer s H vs Q E hr h => ?_), F⟩
  · obtain ⟨p, dx, oc, a, t, ns, rfl, ⟨z1, z2⟩, l1, q⟩ := h; rfl
  · obtain ⟨p, dx, oc, a, t, ns, rfl, ⟨z1, z2⟩, l1, q⟩ := h
    have hu := hu_of hr
    refine ⟨_, PSs.nox (pss_one (ps_ret (pe_op op_cat (pe_lst (pa_cons (pe_get W.c_Packet W.n_Packet_sender RPacket.l_sender (pv 0)) (pa_cons (pe_get W.c_Packet W.n_Packet_target RPacket.l_target (pv 0)) (pa_cons (pe_callTy call_int1 (by rfl) W.f_int bt_int (pa_cons (pe_get W.c_Packet W.n_Packet_marked RPacket.l_marked (pv 0)) pa_nil)) pa_nil)))) (pe_fn (ok_write_many (P := P) (K := K) W) (hr.mono (by decide)) (by rfl) (pa_cons (pe_get W.c_Packet W.n_Packet_octets RPacket.l_octets (pv 0)) pa_nil))))), ?_⟩
    walk_at "s"
    exact q _ _ (by walk_at "fresh") (by walk_at "same") (lk_eq (by walk_at "look") (by simp [pkN]))
theorem ok_write_packet (W : Wld K mg) : GFn P w K mg base "write_packet" 2 ["packet"] (spWPacket K) := by
  obtain ⟨fd, F1, F⟩ := fo_write_packet (P := P) (w := w) (base := base) W
  exact ⟨⟨_, fd, F1, W.g_write_packet, F.kp, F.bindsN fun _ _ _ _ _ _ us hl => match us, hl with | [_], _ => rfl⟩⟩
theorem u_WPacket {p dx oc : Addr} {a t : Int} {ns : List Int} {H : Hp} {Q : VK} (h : PkOK K H p dx oc a t ns) (l : ns.length ≤ 1000) (q : RL (nis (pkN a t ns)) H Q) : spWPacket K [.ref p] H Q E0 := ⟨p, dx, oc, a, t, ns, rfl, h, l, q⟩
end
end
/-! part M0 -/
section
open PySem PySem.Spec PyProof.Rows L2 ClX TL PySem.W.KIN
def numS (n : Int) : Str := Str.ofString (toString n)
def lineS (ns : List Int) : Str := Txt.join " " (ns.map numS)
/-- numbers that can stand in a line -/
def Nums (ns : List Int) : Prop := ns.length ≤ 2000 ∧ ∀ n ∈ ns, 0 ≤ n ∧ n < 10 ^ 20
theorem num_log {n : Int} (h : 0 ≤ n ∧ n < 10 ^ 20) : n.natAbs.log2 < 1920 := by
  rcases Nat.eq_zero_or_pos n.natAbs with z | z
  · rw [z]; decide
  · rw [Nat.log2_lt (by omega)]
    exact Nat.lt_of_lt_of_le (show n.natAbs < 10 ^ 20 by omega) (by decide +kernel)
theorem num_len {n : Int} (h : 0 ≤ n ∧ n < 10 ^ 20) : (numS n).length ≤ 20 := PyProof.Rows.toString_length_le h.1 (by decide) h.2
theorem tl_num (m : Nat) : tl (numS (m : Int)) = (Nat.toDigits 10 m).map Char.toNat := signs_num m
theorem num_digits {n : Int} (h : 0 ≤ n) : ∀ c ∈ tl (numS n), 48 ≤ c ∧ c ≤ 57 := by
  obtain ⟨m, rfl⟩ := Int.eq_ofNat_of_zero_le h
  intro c hc
  rw [tl_num] at hc
  obtain ⟨ch, hch, e⟩ := List.mem_map.mp hc
  have r := digit_range (Nat.isDigit_of_mem_toDigits (by decide) (by decide) hch)
  rw [← e]
  exact r
theorem num_ne {n : Int} (h : 0 ≤ n) : tl (numS n) ≠ [] := by
  obtain ⟨m, rfl⟩ := Int.eq_ofNat_of_zero_le h
  rw [tl_num]
  intro e
  have h := toDigits_len_ge 10 m
  rw [List.map_eq_nil_iff.mp e] at h
  exact absurd h (by decide)
theorem num_reads {n : Int} (h : 0 ≤ n ∧ n < 10 ^ 20) : PySem.intText? (numS n) = some n := by
  have hl := num_len h
  have hd := num_digits h.1
  have hne := num_ne h.1
  obtain ⟨m, rfl⟩ := Int.eq_ofNat_of_zero_le h.1
  have e := intText_digits (x := numS (m : Int)) hd hne (Nat.le_trans hl (by decide))
  rw [show (numS (m : Int)).cps.toList = (Nat.toDigits 10 m).map Char.toNat from tl_num m, val_back] at e
  exact e
theorem dig0 : ∀ d : Nat, d < 10 → 0 < d → (Nat.digitChar d).toNat ≠ 48 := by decide
/-- no zero leads -/
theorem dig_head (m : Nat) (hm : 0 < m) : ∀ c cs, (Nat.toDigits 10 m).map Char.toNat = c :: cs → c ≠ 48 := by
  induction m using Nat.strongRecOn with
  | _ m ih =>
    intro c cs e
    by_cases h : m < 10
    · rw [Nat.toDigits_of_lt_base h] at e
      have e1 := (List.cons.inj e).1
      rw [← e1]
      exact dig0 m h hm
    · have h2 : m % 10 < 10 := Nat.mod_lt m (by decide)
      have t : Nat.toDigits 10 (m / 10) ++ Nat.toDigits 10 (m % 10) = Nat.toDigits 10 (10 * (m / 10) + m % 10) := Nat.toDigits_append_toDigits (by decide) (by omega) h2
      rw [Nat.div_add_mod] at t
      rw [← t, List.map_append] at e
      cases q : (Nat.toDigits 10 (m / 10)).map Char.toNat with
      | nil =>
        have h := toDigits_len_ge 10 (m / 10)
        rw [List.map_eq_nil_iff.mp q] at h
        exact absurd h (by decide)
      | cons d ds =>
        rw [q] at e
        rw [← (List.cons.inj e).1]
        exact ih (m / 10) (by omega) (by omega) d ds q
theorem num_lead {n : Int} (h : 0 ≤ n) {c : Nat} {cs : List Nat} (e : tl (numS n) = c :: cs) (hc : c = 48) : cs = [] := by
  obtain ⟨m, rfl⟩ := Int.eq_ofNat_of_zero_le h
  rw [tl_num] at e
  rcases Nat.eq_zero_or_pos m with z | z
  · subst z
    rw [Nat.toDigits_of_lt_base (by decide)] at e
    exact (List.cons.inj e).2.symm
  · exact absurd hc (dig_head m z c cs e)
theorem tl_sp : tl (" " : Str) = [32] := by decide +kernel
theorem tl_nl : tl ("\n" : Str) = [10] := by decide +kernel
theorem tl_line (ns : List Int) : tl (lineS ns) = joinL [32] ((ns.map numS).map tl) := by
  unfold lineS
  rw [join_eq, tl_join, tl_sp]
theorem joinL_mem {y : List Nat} {c : Nat} : ∀ {parts : List (List Nat)}, c ∈ joinL y parts → c ∈ y ∨ ∃ p ∈ parts, c ∈ p
  | [], h => absurd h (by simp [joinL])
  | [p], h => .inr ⟨p, List.mem_singleton.mpr rfl, h⟩
  | p :: q :: r, h => by
    have h : c ∈ p ++ (y ++ joinL y (q :: r)) := h
    rcases List.mem_append.mp h with h | h
    · exact .inr ⟨p, List.mem_cons_self .., h⟩
    · rcases List.mem_append.mp h with h | h
      · exact .inl h
      · rcases joinL_mem h with h | ⟨z, hz, h⟩
        · exact .inl h
        · exact .inr ⟨z, List.mem_cons_of_mem _ hz, h⟩
theorem line_signs {ns : List Int} (h : Nums ns) : ∀ c ∈ tl (lineS ns), c = 32 ∨ (48 ≤ c ∧ c ≤ 57) := by
  intro c hc
  rw [tl_line] at hc
  rcases joinL_mem hc with h1 | ⟨p, hp, h1⟩
  · exact .inl (List.mem_singleton.mp h1)
  · obtain ⟨q, hq, rfl⟩ := List.mem_map.mp hp
    obtain ⟨n, hn, rfl⟩ := List.mem_map.mp hq
    exact .inr (num_digits (h.2 n hn).1 c h1)
theorem line_split {ns : List Int} (h : Nums ns) (hne : ns ≠ []) : Txt.split (lineS ns) " " = ns.map numS := by
  refine split_join tl_sp (by decide +kernel) (fun e => hne (List.map_eq_nil_iff.mp e)) fun p hp => ?_
  obtain ⟨n, hn, rfl⟩ := List.mem_map.mp hp
  intro hc
  have := num_digits (h.2 n hn).1 32 hc
  omega
def titleS : Str := "throughline host 1"
def textS (cs : List (List Int)) : Str := (("throughline host 1" : Str) ++ ("\n" : Str)) ++ Txt.join Str.empty (cs.map fun c => lineS c ++ ("\n" : Str))
/-- the lines of such a text -/
def linesS (cs : List (List Int)) : List Str := titleS :: (cs.map lineS ++ [Str.empty])
theorem joinL_nil (y : List Nat) (p : List Nat) (r : List (List Nat)) (h : r ≠ []) : joinL y (p :: r) = p ++ (y ++ joinL y r) := by
  cases r with
  | nil => exact absurd rfl h
  | cons q r => rfl
theorem joinL_empty : ∀ parts : List (List Nat), joinL [] parts = parts.flatten
  | [] => rfl
  | [p] => by simp [joinL]
  | p :: q :: r => by
    show p ++ ([] ++ joinL [] (q :: r)) = _
    rw [joinL_empty (q :: r)]
    simp
theorem tl_empty : tl Str.empty = [] := rfl
theorem tl_tail (cs : List (List Int)) : joinL [10] ((cs.map lineS ++ [Str.empty]).map tl) = ((cs.map fun c => lineS c ++ ("\n" : Str)).map tl).flatten := by
  induction cs with
  | nil => rfl
  | cons c cs ih =>
    rw [List.map_cons, List.cons_append, List.map_cons, joinL_nil _ _ _ (by simp), ih, List.map_cons, List.map_cons, List.flatten_cons, tl_append, tl_nl, List.append_assoc]
theorem text_lines (cs : List (List Int)) : textS cs = Txt.join "\n" (linesS cs) := by
  have e : tl (textS cs) = tl (Txt.join "\n" (linesS cs)) := by
    unfold textS linesS titleS
    rw [tl_append, tl_append, join_eq, tl_join, tl_empty, joinL_empty, join_eq, tl_join, tl_nl, List.map_cons, joinL_nil _ _ _ (by simp), tl_tail, List.append_assoc]
  exact ext_tl e
theorem text_split {cs : List (List Int)} (h : ∀ c ∈ cs, Nums c) : Txt.split (textS cs) "\n" = linesS cs := by
  rw [text_lines]
  refine split_join tl_nl (by decide +kernel) (by simp [linesS]) fun p hp => ?_
  unfold linesS at hp
  rcases List.mem_cons.mp hp with rfl | hp
  · decide +kernel
  · rcases List.mem_append.mp hp with hp | hp
    · obtain ⟨c, hc, rfl⟩ := List.mem_map.mp hp
      intro h10
      have := line_signs (h c hc) 10 h10
      omega
    · rw [List.mem_singleton.mp hp]
      simp [tl_empty]
theorem textS_nil : textS [] = "throughline host 1\n" := by decide +kernel
theorem textS_snoc (cs : List (List Int)) (c : List Int) : textS (cs ++ [c]) = textS cs ++ (lineS c ++ ("\n" : Str)) := by
  have e : tl (textS (cs ++ [c])) = tl (textS cs ++ (lineS c ++ ("\n" : Str))) := by
    unfold textS
    rw [tl_append, tl_append, tl_append, tl_append, tl_append, join_eq, join_eq, tl_join, tl_join, tl_empty, joinL_empty, joinL_empty]
    simp [tl_append, List.append_assoc]
  exact ext_tl e
theorem sum_le {α : Type} (f : α → Nat) (k : Nat) : ∀ l : List α, (∀ x ∈ l, f x ≤ k) → (l.map f).sum ≤ l.length * k
  | [], _ => by simp
  | x :: r, h => by
    have h1 := h x (List.mem_cons_self ..)
    have h2 := sum_le f k r fun y hy => h y (List.mem_cons_of_mem _ hy)
    simp only [List.map_cons, List.sum_cons, List.length_cons, Nat.add_mul]
    omega
theorem joinL_len (y : List Nat) : ∀ parts : List (List Nat), (joinL y parts).length ≤ (parts.map List.length).sum + parts.length * y.length
  | [] => by simp [joinL]
  | [p] => by simp [joinL]
  | p :: q :: r => by
    show (p ++ (y ++ joinL y (q :: r))).length ≤ _
    have ih := joinL_len y (q :: r)
    rw [List.length_append, List.length_append, List.map_cons, List.sum_cons, List.length_cons (a := p), Nat.add_mul]
    omega
theorem line_len {ns : List Int} (h : Nums ns) : (lineS ns).length ≤ 42000 := by
  rw [len_tl, tl_line]
  have h1 := joinL_len [32] ((ns.map numS).map tl)
  have h2 : (((ns.map numS).map tl).map List.length).sum ≤ ((ns.map numS).map tl).length * 20 := sum_le List.length 20 _ fun x hx => by
    obtain ⟨z, hz, rfl⟩ := List.mem_map.mp hx
    obtain ⟨n, hn, rfl⟩ := List.mem_map.mp hz
    rw [← len_tl]
    exact num_len (h.2 n hn)
  have h3 : ((ns.map numS).map tl).length ≤ 2000 := by simpa using h.1
  have h4 : ([32] : List Nat).length = 1 := rfl
  rw [h4] at h1
  omega
theorem app_len (x y : Str) : (x ++ y).length = x.length + y.length := by
  rw [len_tl, tl_append, List.length_append, ← len_tl, ← len_tl]
theorem nl_len : ("\n" : Str).length = 1 := by decide +kernel
theorem lines_sum {cs : List (List Int)} (h : ∀ c ∈ cs, Nums c) : ((cs.map fun c => lineS c ++ ("\n" : Str)).map (·.length)).sum ≤ cs.length * 42001 := by
  have := sum_le (fun z : Str => z.length) 42001 (cs.map fun c => lineS c ++ ("\n" : Str)) fun x hx => by
    obtain ⟨c, hc, rfl⟩ := List.mem_map.mp hx
    have := line_len (h c hc)
    show (lineS c ++ ("\n" : Str)).length ≤ 42001
    rw [app_len, nl_len]
    omega
  simpa using this
theorem join_len (ys : List Str) : (Txt.join Str.empty ys).length ≤ (ys.map (·.length)).sum := by
  rw [len_tl, join_eq, tl_join, tl_empty]
  have h := joinL_len [] (ys.map tl)
  have e : (ys.map tl).map List.length = ys.map (·.length) := by
    rw [List.map_map]
    exact List.map_congr_left fun x _ => (len_tl x).symm
  rw [e] at h
  simpa using h
end
/-! part D20 -/
section
set_option maxHeartbeats 4000000
open PySem PySem.Spec PyProof.Rows L2 ClX

section
variable {P : Program} [PrOk P] {w : World} {K : PySem.W.Frag} {mg : Str → Option Value} {base : Heap}
local macro_rules | `(tactic| walk_at "lg") => `(tactic| assumption)
theorem c_m1 {r : V → List V → Hp → VK → Prop} {to te : TE} {σ : L2.St} {H : Hp} {Q : VK} (h : to σ H fun x H1 => (∃ a, x = .str a) ∧ te σ H1 fun y H2 => r x [y] H2 Q) : tM1 r to te σ H Q := h
theorem c_isstr {z : Str} {B : Prop} (k : B) : (∃ a, V.str z = .str a) ∧ B := ⟨⟨z, rfl⟩, k⟩
local macro_rules | `(tactic| walk_at "s1") => `(tactic| first
  | (with_reducible refine c_m1 ?_)
  | (with_reducible refine c_isstr ?_))
def spWLine : Sp := fun vs H Q _ => ∃ (a : Addr) (ns : List Int), vs = [.ref a] ∧ H a = some (.lst (nis ns)) ∧ Nums ns ∧ RV (.str (lineS ns)) H Q
abbrev N_write_line : List Str := ["numbers", "number"]
theorem sc_write_line : FnScope N_write_line ["numbers"] (defScope s_write_line) := ⟨rfl, rfl, rfl, by decide +kernel, rfl, by decide +kernel, by decide +kernel⟩
theorem fo_write_line (W : Wld K mg) : ∃ fd, FnOk P w K mg base CX0 1 (pl_write_line.ad K) fd ["numbers"] spWLine ∧ FunD K "write_line" "write_line" (defArgs s_write_line) (defBody s_write_line) (defScope s_write_line) [] [] (pl_write_line.ad K) fd := by
  obtain ⟨fd, F⟩ := W.d_write_line
  refine ⟨fd, F.ok sc_write_line (fun vs H Q E h => ?_) (fun cdv A outer s H vs Q E hr h => ?_), F⟩
  · obtain ⟨a, ns, rfl, z1, hn, q⟩ := h; rfl
  · obtain ⟨a, ns, rfl, z1, hn, q⟩ := h
    have hu := hu_of hr
    refine ⟨_, PSs.nox (pss_one (ps_ret (pe_join pe_str (pe_lc (own := [("number", 1)]) (g := gName 1) (tt := tYes) rfl sc_write_line.nd (pi_list (pv 0)) (blkOk_by (own := [("number", 1)]) (N := N_write_line) (sc := defScope s_write_line) (by decide +kernel)) (fun _ _ _ _ _ => pg_name (i := 1) sc_write_line.nd rfl (Or.inl rfl)) (fun _ _ _ _ _ => pts_nil) (fun _ _ _ _ _ => (pe_callTy call_str_int (by rfl) W.f_str bt_str (pa_cons (pv 1) pa_nil))))))), ?_⟩
    walk_at "s"
    rename_i Dl fD
    refine c_mapV (ns.map fun n => V.str (numS n)) (by simp) z1 (by have := hn.1; simp; omega) fD (fun _ => rfl) ?_ ?_
    · intro i x y H' hx hy e Q' hq
      obtain ⟨n, rfl, hi⟩ := nis_at hx
      rw [List.getElem?_map, hi] at hy
      have ey : V.str (numS n) = y := Option.some.inj hy
      subst ey
      have hl := num_log (hn.2 n (List.mem_of_getElem? hi))
      walk_at "s"
      exact hq _ (by walk_at "same")
    · intro H2 e2 hD
      have hs : (((ns.map numS).map (·.length)).sum + (ns.map numS).length * (Str.ofString " ").length) ≤ 16777216 := by
        have h1 := sum_le (fun s : Str => s.length) 20 (ns.map numS) (fun s hs => by
          obtain ⟨n, hm, rfl⟩ := List.mem_map.mp hs
          exact num_len (hn.2 n hm))
        have h2 : (ns.map numS).length ≤ 2000 := by simpa using hn.1
        have h3 : (Str.ofString " ").length = 1 := by decide +kernel
        rw [h3]
        have h4 : (ns.map numS).length * 20 ≤ 2000 * 20 := Nat.mul_le_mul_right _ h2
        omega
      have hD2 : H2 Dl = some (.lst ((ns.map numS).map V.str)) := by rw [hD]; simp
      refine ⟨_, _, ns.map numS, rfl, rfl, .inl (SqL.of hD2), hs, ?_⟩
      walk_at "s"
      exact q _ (by walk_at "same")
theorem ok_write_line (W : Wld K mg) : GFn P w K mg base "write_line" 1 ["numbers"] spWLine := by
  obtain ⟨fd, F1, F⟩ := fo_write_line (P := P) (w := w) (base := base) W
  exact ⟨⟨_, fd, F1, W.g_write_line, F.kp, F.bindsN fun _ _ _ _ _ _ us hl => match us, hl with | [_], _ => rfl⟩⟩
theorem u_WLine {a : Addr} {xs : List V} {ns : List Int} {H : Hp} {Q : VK} (h : H a = some (.lst xs)) (e : xs = nis ns) (hn : Nums ns) (q : RV (.str (lineS ns)) H Q) : spWLine [.ref a] H Q E0 := ⟨a, ns, rfl, lk_eq h e, hn, q⟩
end
end
/-! part D21 -/
section
set_option maxHeartbeats 4000000
open PySem PySem.Spec PyProof.Rows L2 ClX

section
variable {P : Program} [PrOk P] {w : World} {K : PySem.W.Frag} {mg : Str → Option Value} {base : Heap}
section
variable {σ : L2.St} {H : Hp} {te : TE}
/-- a comprehension over anything that is walked: each item new or old, the heap only grows -/
theorem c_mapW {J : It} {n : Nat} {G : Hp → Prop} {Xi : Nat → V → Prop} (wk : Walk J n G (fun i H x H' => H' = H ∧ Xi i x)) {j : Nat} {vs : List Nat} {Dl : Addr} {Rl : Nat → V → Hp → Prop} {Qd : Hp → Prop} (hz : n ≤ 100000) (fD : H Dl = none) (hG : ∀ H', Same H H' → G H') (hw : ∀ x, wipe ((wipe σ vs).set j (some x)) vs = wipe σ vs)
    (he : ∀ i x H', i < n → Xi i x → Same H H' → (∃ acc, H' Dl = some (.lst acc)) → ∀ Q' : VK, (∀ y H2, Same H' H2 → (∀ H3, (∀ b o, H2 b = some o → b ≠ Dl → H3 b = some o) → Rl i y H3) → Q' y H2) → te ((wipe σ vs).set j (some x)) H' Q')
    (mo : ∀ i y H2 H3, (∀ b o, H2 b = some o → b ≠ Dl → H3 b = some o) → Rl i y H2 → Rl i y H3)
    (k : ∀ ys H2, Same H H2 → H2 Dl = some (.lst ys) → ys.length = n → (∀ (i : Nat) y, ys[i]? = some y → Rl i y H2) → Qd H2) :
    ∃ W : Nat → Nat → Hp → Prop, (∃ m, W 0 m (upd H Dl (.lst []))) ∧ ∀ i m H, W i m H →
      (J.stop i H ∧ Qd H) ∨ (J.go i H ∧ ∃ Nx : Hp → Prop, (∀ H', Nx H' → ∃ m', m' < m ∧ W (i + 1) m' H') ∧ ∀ x H', J.yld i H x H' → gName j x (wipe σ vs) H' fun σ2 H2 => wipe σ2 vs = wipe σ vs ∧ tYes σ2 H2 fun b H3 =>
        if b = true then te σ2 H3 fun y H4 => ∃ acc, H4 Dl = some (.lst acc) ∧ acc.length < sizeLine ∧ Nx (upd H4 Dl (.lst (acc ++ [y]))) else Nx H3) := by
  refine lc_it wk (fun i H' => Same H H' ∧ ∃ ys : List V, H' Dl = some (.lst ys) ∧ ys.length = i ∧ ∀ (m : Nat) y, ys[m]? = some y → Rl m y H') ⟨same_new fD, [], upd_same, rfl, fun m y e => by simp at e⟩ (fun i H' _ p => hG H' p.1) ?_ ?_
  · rintro i x H1 H' hi ⟨e, ys, hD, hl, hr⟩ ⟨rfl, hx⟩
    refine ⟨hw x, ?_⟩
    refine c_yes ?_
    rw [if_pos rfl]
    refine he i x H' hi hx e ⟨ys, hD⟩ _ fun y H2 e2 ry => ?_
    refine ⟨ys, e2 _ _ hD, by rw [hl, sizeLine_eq]; omega, fun b o hb => upd_app (e2 _ _ (e _ _ hb)) (ne_fresh fD hb), _, upd_same, by rw [List.length_append, hl]; rfl, fun m z hm => ?_⟩
    have st : ∀ b o, H2 b = some o → b ≠ Dl → upd H2 Dl (.lst (ys ++ [y])) b = some o := fun b o hb n => upd_app hb n
    by_cases q : m < ys.length
    · rw [List.getElem?_append_left q] at hm
      exact mo _ _ _ _ st (mo _ _ _ _ (fun b o hb _ => e2 b o hb) (hr m z hm))
    · rw [List.getElem?_append_right (by omega)] at hm
      have q2 : m - ys.length = 0 := by
        have := (List.getElem?_eq_some_iff.mp hm).1
        simp at this
        omega
      rw [q2] at hm
      have q3 : y = z := by simpa using hm
      have q4 : m = i := by omega
      rw [← q3, q4]
      exact ry _ st
  · rintro H' ⟨e, ys, hD, hl, hr⟩
    exact k ys H' e hD hl hr
end
end
end
/-! part D22 -/
section
set_option maxHeartbeats 4000000
open PySem PySem.Spec PyProof.Rows L2 ClX

section
variable {P : Program} [PrOk P] {w : World} {K : PySem.W.Frag} {mg : Str → Option Value} {base : Heap}
/-- a packet's places and data -/
structure PkX where
  p : Addr
  dx : Addr
  oc : Addr
  a : Int
  t : Int
  ns : List Int
/-- a socket's places and data -/
structure SkX where
  x : SkA
  k : SkD
  d : EndD
def headN (g : HD) (o : OptD) (a b c : Nat) : List Int := [g.addr] ++ optN o ++ [g.ctr, g.now] ++ [(a : Int), (b : Int), (c : Int)]
def codesN (g : HD) (o : OptD) (ls : List (Int × Int)) (ks : List SkX) (qs : List PkX) : List (List Int) :=
  [headN g o ls.length ks.length qs.length] ++ ls.map (fun p => [p.1, p.2]) ++ ks.map (fun y => sockN y.k o y.d) ++ qs.map (fun q => pkN q.a q.t q.ns)
/-- a host with all that it holds -/
structure FullOK (K : PySem.W.Frag) (H : Hp) (B : HA) (g : HD) (o : OptD) (ls : List (Int × Int)) (ks : List SkX) (qs : List PkX) : Prop where
  hL : B.h ≠ B.L
  h : HAt K H B g
  oa : OAt K H B.oa B.od o
  L : H B.L = some (.dK (lsV ls))
  S : H B.S = some (.lst (ks.map fun y => .ref y.x.s))
  P : H B.P = some (.lst (qs.map fun q => .ref q.p))
  kA : ∀ y ∈ ks, KAt K H y.x.s y.x.sd y.x.A.e y.k ∧ EndOK K H B.oa o y.x.A y.d
  pA : ∀ q ∈ qs, PkOK K H q.p q.dx q.oc q.a q.t q.ns
/-- the lists of numbers behind a list of references -/
def CdsAt (H : Hp) (xs : List V) (cs : List (List Int)) : Prop := xs.length = cs.length ∧ ∀ (i : Nat) x, xs[i]? = some x → ∃ a c, cs[i]? = some c ∧ x = .ref a ∧ H a = some (.lst (nis c))
theorem CdsAt.one {H : Hp} {a : Addr} {xs : List V} {c : List Int} (h : H a = some (.lst xs)) (e : xs = nis c) : CdsAt H [.ref a] [c] := ⟨rfl, fun i x hx => by
  cases i with
  | zero => exact ⟨a, c, rfl, (Option.some.inj hx).symm, lk_eq h e⟩
  | succ i => simp at hx⟩
theorem CdsAt.app {H : Hp} {xs ys : List V} {cs ds : List (List Int)} (h : CdsAt H xs cs) (k : CdsAt H ys ds) : CdsAt H (xs ++ ys) (cs ++ ds) := by
  refine ⟨by rw [List.length_append, List.length_append, h.1, k.1], fun i x hx => ?_⟩
  by_cases q : i < xs.length
  · rw [List.getElem?_append_left q] at hx
    obtain ⟨a, c, h1, h2, h3⟩ := h.2 i x hx
    exact ⟨a, c, by rw [List.getElem?_append_left (by rw [← h.1]; exact q)]; exact h1, h2, h3⟩
  · rw [List.getElem?_append_right (by omega)] at hx
    obtain ⟨a, c, h1, h2, h3⟩ := k.2 _ x hx
    exact ⟨a, c, by rw [List.getElem?_append_right (by rw [← h.1]; omega), ← h.1]; exact h1, h2, h3⟩
theorem CdsAt.ext {H H' : Hp} {xs : List V} {cs : List (List Int)} (h : CdsAt H xs cs) (e : Same H H') : CdsAt H' xs cs := ⟨h.1, fun i x hx => by
  obtain ⟨a, c, h1, h2, h3⟩ := h.2 i x hx
  exact ⟨a, c, h1, h2, e _ _ h3⟩⟩
theorem CdsAt.of {H : Hp} {α : Type} {ys : List V} {ls : List α} {f : α → List Int} (hl : ys.length = ls.length) (h : ∀ (i : Nat) y, ys[i]? = some y → ∃ p a, ls[i]? = some p ∧ y = .ref a ∧ H a = some (.lst (nis (f p)))) : CdsAt H ys (ls.map f) := by
  refine ⟨by rw [hl, List.length_map], fun i y hy => ?_⟩
  obtain ⟨p, a, h1, h2, h3⟩ := h i y hy
  exact ⟨a, f p, by rw [List.getElem?_map, h1]; rfl, h2, h3⟩
theorem sockN_len (k : SkD) (o : OptD) (d : EndD) (h : d.octs.length ≤ 1000) : (sockN k o d).length ≤ 1200 := by
  have := endN_len o d h
  simp only [sockN, List.length_append, List.length_cons, List.length_nil]
  omega
theorem lsV_get {ls : List (Int × Int)} (hu : ∀ p ∈ ls, ∀ q ∈ ls, p.1 = q.1 → p = q) {p : Int × Int} (hp : p ∈ ls) : valV (lsV ls) (Sum.inl p.1) = some (.int p.2) := by
  have key : ∀ l : List (Int × Int), (∀ q ∈ l, q ∈ ls) → p ∈ l → valV (lsV l) (Sum.inl p.1) = some (.int p.2) := by
    intro l
    induction l with
    | nil => intro _ h; cases h
    | cons q r ih =>
      intro hl hm
      by_cases e : q.1 = p.1
      · rw [show lsV (q :: r) = (Sum.inl q.1, V.int q.2) :: lsV r from rfl, valV_pos (by rw [e])]
        rw [hu q (hl q (List.mem_cons_self ..)) p hp e]
      · rw [show lsV (q :: r) = (Sum.inl q.1, V.int q.2) :: lsV r from rfl, valV_neg (by intro z; exact e (Sum.inl.inj z))]
        refine ih (fun z hz => hl z (List.mem_cons_of_mem _ hz)) ?_
        rcases List.mem_cons.mp hm with h | h
        · exact absurd (by rw [h]) e
        · exact h
  exact key ls (fun _ h => h) hp
def spSave (K : PySem.W.Frag) : Sp := fun vs H Q _ => ∃ (B : HA) (g : HD) (o : OptD) (ls : List (Int × Int)) (ks : List SkX) (qs : List PkX), vs = [.ref B.h] ∧ FullOK K H B g o ls ks qs ∧ (∀ p ∈ ls, ∀ q ∈ ls, p.1 = q.1 → p = q) ∧ ls.length ≤ 100 ∧ ks.length ≤ 100 ∧ qs.length ≤ 100 ∧ (∀ y ∈ ks, y.d.octs.length ≤ 900 ∧ ∃ z, y.d.alarm = .int z) ∧ (∀ q ∈ qs, q.ns.length ≤ 900) ∧
  (∀ c ∈ codesN g o ls ks qs, Nums c) ∧ RV (.str (textS (codesN g o ls ks qs))) H Q
local macro_rules | `(tactic| walk_at "sz") => `(tactic| (simp only [optN_len, List.length_map, List.length_append, List.length_cons, List.length_nil, sizeLine_eq]; omega))
local macro_rules | `(tactic| walk_at "s1") => `(tactic| first
  | (show spWOptsS _ _ _ _ _; refine' u_WOptsS ?k1 ?k2; (case k1 => walk_at "look")))
abbrev N_save_host : List Str := ["host", "listeners", "head", "codes", "port", "sock", "packet", "code"]
theorem sc_save_host : FnScope N_save_host ["host"] (defScope s_save_host) := ⟨rfl, rfl, rfl, by decide +kernel, rfl, by decide +kernel, by decide +kernel⟩
theorem fo_save_host (W : Wld K mg) : ∃ fd, FnOk P w K mg base CX0 6 (pl_save_host.ad K) fd ["host"] (spSave K) ∧ FunD K "save_host" "save_host" (defArgs s_save_host) (defBody s_save_host) (defScope s_save_host) [] [] (pl_save_host.ad K) fd := by
  obtain ⟨fd, F⟩ := W.d_save_host
  refine ⟨fd, F.ok sc_save_host (fun vs H Q E h => ?_) (fun cdv A outer s H vs Q E hr h => ?_), F⟩
  · obtain ⟨B, g, o, ls, ks, qs, rfl, ⟨a3, z1, z2, z3, z4, z5, z6, z7⟩, hu1, l1, l2, l3, l4, l5, hc, q⟩ := h; rfl
  · obtain ⟨B, g, o, ls, ks, qs, rfl, ⟨a3, z1, z2, z3, z4, z5, z6, z7⟩, hu1, l1, l2, l3, l4, l5, hc, q⟩ := h
    have hu := hu_of hr
    refine ⟨_, PSs.nox (pss_cons (ps_lock (ps_setLc (i := 1) (own := [("port", 4)]) (g := gName 4) (tt := tYes) rfl sc_save_host.nd rfl rfl (sw_true rfl rfl rfl (by decide +kernel)) (pi_keys (pe_get W.c_Host W.n_Host__listeners RHost.l_listeners (pv 0))) (blkOk_by (own := [("port", 4)]) (N := N_save_host) (sc := defScope s_save_host) (by decide +kernel)) (fun _ _ _ _ _ => pg_name (i := 4) sc_save_host.nd rfl (Or.inl rfl)) (fun _ _ _ _ _ => pts_nil) (fun _ _ _ _ _ => (pe_lst (pa_cons (pv 4) (pa_cons (pe_dget hu (pe_get W.c_Host W.n_Host__listeners RHost.l_listeners (pv 0)) (pv 4) (fun _ _ => rfl)) pa_nil))))))
      (pss_cons (ps_set (i := 2) sc_save_host.nd rfl (Or.inl rfl) (pe_op op_cat (pe_op op_cat (pe_lst (pa_cons (pe_get W.c_Host W.n_Host_address RHost.l_address (pv 0)) pa_nil)) (pe_fn (ok_write_options_saved (P := P) (K := K) W) (hr.mono (by decide)) (by rfl) (pa_cons (pe_get W.c_Host W.n_Host_options RHost.l_options (pv 0)) pa_nil))) (pe_lst (pa_cons (pe_get W.c_Host W.n_Host_counter RHost.l_counter (pv 0)) (pa_cons (pe_get W.c_Host W.n_Host_now RHost.l_now (pv 0)) pa_nil)))))
      (pss_cons (ps_set (i := 2) sc_save_host.nd rfl (Or.inl rfl) (pe_op op_cat (pv 2) (pe_lst (pa_cons (pe_callB call_len_seq (by rfl) W.f_len boot_len (pa_cons (pv 1) pa_nil)) (pa_cons (pe_callB call_len_seq (by rfl) W.f_len boot_len (pa_cons (pe_get W.c_Host W.n_Host__sockets RHost.l_sockets (pv 0)) pa_nil)) (pa_cons (pe_callB call_len_seq (by rfl) W.f_len boot_len (pa_cons (pe_get W.c_Host W.n_Host__packets RHost.l_packets (pv 0)) pa_nil)) pa_nil))))))
      (pss_cons (ps_set (i := 3) sc_save_host.nd rfl (Or.inl rfl) (pe_op op_cat (pe_op op_cat (pe_lst (pa_cons (pv 2) pa_nil)) (pv 1)) (pe_lc (own := [("sock", 5)]) (g := gName 5) (tt := tYes) rfl sc_save_host.nd (pi_list (pe_get W.c_Host W.n_Host__sockets RHost.l_sockets (pv 0))) (blkOk_by (own := [("sock", 5)]) (N := N_save_host) (sc := defScope s_save_host) (by decide +kernel)) (fun _ _ _ _ _ => pg_name (i := 5) sc_save_host.nd rfl (Or.inl rfl)) (fun _ _ _ _ _ => pts_nil) (fun _ _ _ _ _ => (pe_fn (ok_write_socket (P := P) (K := K) W) (hr.mono (by decide)) (by rfl) (pa_cons (pv 5) pa_nil))))))
      (pss_cons (ps_set (i := 3) sc_save_host.nd rfl (Or.inl rfl) (pe_op op_cat (pv 3) (pe_lc (own := [("packet", 6)]) (g := gName 6) (tt := tYes) rfl sc_save_host.nd (pi_list (pe_get W.c_Host W.n_Host__packets RHost.l_packets (pv 0))) (blkOk_by (own := [("packet", 6)]) (N := N_save_host) (sc := defScope s_save_host) (by decide +kernel)) (fun _ _ _ _ _ => pg_name (i := 6) sc_save_host.nd rfl (Or.inl rfl)) (fun _ _ _ _ _ => pts_nil) (fun _ _ _ _ _ => (pe_fn (ok_write_packet (P := P) (K := K) W) (hr.mono (by decide)) (by rfl) (pa_cons (pv 6) pa_nil))))))
      (pss_one (ps_ret (pe_op op_add_str (pe_op op_add_str (pe_gstr rfl W.i_TITLE) pe_str) (pe_join pe_str (pe_lc (own := [("code", 7)]) (g := gName 7) (tt := tYes) rfl sc_save_host.nd (pi_list (pv 3)) (blkOk_by (own := [("code", 7)]) (N := N_save_host) (sc := defScope s_save_host) (by decide +kernel)) (fun _ _ _ _ _ => pg_name (i := 7) sc_save_host.nd rfl (Or.inl rfl)) (fun _ _ _ _ _ => pts_nil) (fun _ _ _ _ _ => (pe_op op_add_str (pe_fn (ok_write_line (P := P) (K := K) W) (hr.mono (by decide)) (by rfl) (pa_cons (pv 7) pa_nil)) pe_str)))))))))))), ?_⟩
    walk_at "s"
    refine ⟨B.L, .dK (lsV ls), z3, by trivial, fun od => ?_⟩
    walk_at "s"
    refine (show iKeys (tGet (He.ga K "Host") RHost.fs RHost.listeners (tVar 0)) _ _ _ from ?_)
    unfold iKeys
    walk_at "s"
    refine ⟨B.L, od, rfl, .inl ⟨lsV ls, upd_same, fun Dl fD => ?_⟩⟩
    have nD : B.L ≠ Dl := ne_fresh fD upd_same
    refine c_mapW (Xi := fun i x => ∃ k v, (lsV ls)[i]? = some (k, v) ∧ x = kV k) (Rl := fun i y H => ∃ p a, ls[i]? = some p ∧ y = .ref a ∧ a ≠ Dl ∧ H a = some (.lst [.int p.1, .int p.2])) walk_keys (by simp; omega) fD (fun H' e => e _ _ upd_same) (fun _ => rfl) ?_ ?_ ?_
    · rintro i x H' hi ⟨k, v, hk, rfl⟩ e ⟨acc, hacc⟩ Q' hq
      rw [List.getElem?_map] at hk
      cases hi2 : ls[i]? with
      | none => rw [hi2] at hk; cases hk
      | some p =>
        rw [hi2] at hk
        have hk2 := Option.some.inj hk
        obtain ⟨rfl, rfl⟩ := Prod.mk.inj hk2
        have hp := List.mem_of_getElem? hi2
        have hL : H' B.L = some (.frz od (.dK (lsV ls))) := e _ _ upd_same
        show tLst _ (List.set _ 4 (some (V.int p.1))) H' Q'
        walk_at "s"
        refine c_dgetI (v := .int p.2) (.inr ⟨od, hL⟩) (lsV_get hu1 hp) ?_
        walk_at "s"
        rename_i a fa
        refine hq _ _ (by walk_at "same") fun H3 st => ⟨p, a, hi2, rfl, ?_, st _ _ upd_same ?_⟩
        · exact (ne_of_none hacc fa).symm
        · exact (ne_of_none hacc fa).symm
    · rintro i y H2 H3 st ⟨p, a, h1, h2, h3, h4⟩
      exact ⟨p, a, h1, h2, h3, st _ _ h4 h3⟩
    · intro ys H2 e2 hD hl hr
      have hf : H2 B.L = some (.frz od (.dK (lsV ls))) := e2 _ _ upd_same
      refine And.intro hf ?_
      have e3 : Same H (upd H2 B.L (.dK (lsV ls))) := by
        intro b o hb
        by_cases q2 : b = B.L
        · subst q2
          rw [z3] at hb
          rw [← hb]
          exact upd_same
        · exact upd_app (e2 _ _ (upd_app hb q2)) q2
      have hD3 : upd H2 B.L (.dK (lsV ls)) Dl = some (.lst ys) := upd_app hD nD.symm
      have hr3 : ∀ (i : Nat) y, ys[i]? = some y → ∃ p a, ls[i]? = some p ∧ y = .ref a ∧ upd H2 B.L (.dK (lsV ls)) a = some (.lst [.int p.1, .int p.2]) := by
        intro i y hy
        obtain ⟨p, a, h1, h2, _, h4⟩ := hr i y hy
        refine ⟨p, a, h1, h2, upd_app h4 ?_⟩
        rintro rfl
        rw [hf] at h4
        cases h4
      have hl3 : ys.length = ls.length := by rw [hl]; simp
      have hl4 : ys.length ≤ 100 := by omega
      generalize upd H2 B.L (.dK (lsV ls)) = H3 at e3 hD3 hr3
      walk_at "s"
      rename_i hp9 fh9 lp9 fl9 cp9 fc9 Dk fDk
      refine c_mapW (wk := walk_list (xs := ks.map fun y => V.ref y.x.s)) (Xi := fun i x => (ks.map fun y => V.ref y.x.s)[i]? = some x) (Rl := fun i y H => ∃ u p, ks[i]? = some u ∧ y = .ref p ∧ p ≠ Dk ∧ H p = some (.lst (nis (sockN u.k o u.d)))) (by simp; omega) fDk (fun H' e => SqL.of (e _ _ (by walk_at "look"))) (fun _ => rfl) ?_ ?_ ?_
      · rintro i x H' hi hx e ⟨acc, hacc⟩ Q' hq
        rw [List.getElem?_map] at hx
        cases hi2 : ks[i]? with
        | none => rw [hi2] at hx; cases hx
        | some y =>
          rw [hi2] at hx
          obtain rfl := Option.some.inj hx
          have hm := List.mem_of_getElem? hi2
          obtain ⟨y1, y2, y3, y4, y5, y6, y7, y8, y9, y10⟩ := z6 y hm
          obtain ⟨yl, z, hz⟩ := l4 y hm
          walk_at "s"
          refine u_WSock (oa := B.oa) (o := o) (x := y.x) (k := y.k) (d := y.d) (z := z) (by walk_at "look") ⟨by walk_at "look", by walk_at "look", by walk_at "look", by walk_at "look", by walk_at "look", by walk_at "look", by walk_at "look", by walk_at "look", by walk_at "look"⟩ hz (by omega) ?_
          walk_at "s"
          rename_i p9 H9 f9 e9 h9
          exact hq _ _ (by walk_at "same") fun H3 st => ⟨y, p9, hi2, rfl, (ne_of_none hacc f9).symm, st _ _ h9 (ne_of_none hacc f9).symm⟩
      · rintro i y H2 H3 st ⟨p, a, h1, h2, h3, h4⟩
        exact ⟨p, a, h1, h2, h3, st _ _ h4 h3⟩
      · intro ys2 H4 e4 hDk hl5 hr5
        have hhd : H4 hp9 = some (.lst (([V.int g.addr] ++ nis (optN o) ++ [V.int g.ctr, V.int g.now] ++ [V.int ys.length, V.int (ks.map fun y => V.ref y.x.s).length, V.int (qs.map fun q => V.ref q.p).length] : List V))) := by walk_at "look"
        have hcp : H4 cp9 = some (.lst ([V.ref hp9] ++ ys)) := by walk_at "look"
        have e5 : Same H3 H4 := by walk_at "same"
        have e6 : Same H H4 := fun b o h => e5 _ _ (e3 _ _ h)
        have c1 : CdsAt H4 [V.ref hp9] [headN g o ls.length ks.length qs.length] := CdsAt.one hhd (by simp [headN, hl3])
        have c2 : CdsAt H4 ys (ls.map fun p => [p.1, p.2]) := (CdsAt.of hl3 hr3).ext e5
        have c3 : CdsAt H4 ys2 (ks.map fun y => sockN y.k o y.d) := CdsAt.of (by rw [hl5, List.length_map]) fun i y hy => by
          obtain ⟨u, p, r1, r2, _, r4⟩ := hr5 i y hy
          exact ⟨u, p, r1, r2, r4⟩
        have hl6 : ys2.length ≤ 100 := by rw [hl5, List.length_map]; exact l2
        have c4 := (c1.app c2).app c3
        clear e4 fh9 fl9 fc9 fDk hr5 hr3 hhd
        have z1 : HAt K H4 B g := e6 _ _ z1
        have z5 : H4 B.P = some (.lst (qs.map fun q => V.ref q.p)) := e6 _ _ z5
        walk_at "s"
        rename_i cc fcc Dp fDp
        refine c_mapW (wk := walk_list (xs := qs.map fun q => V.ref q.p)) (Xi := fun i x => (qs.map fun q => V.ref q.p)[i]? = some x) (Rl := fun i y H => ∃ u p, qs[i]? = some u ∧ y = .ref p ∧ p ≠ Dp ∧ H p = some (.lst (nis (pkN u.a u.t u.ns)))) (by simp; omega) fDp (fun H' e => SqL.of (e _ _ (by walk_at "look"))) (fun _ => rfl) ?_ ?_ ?_
        · rintro i x H' hi hx e ⟨acc, hacc⟩ Q' hq
          rw [List.getElem?_map] at hx
          cases hi2 : qs[i]? with
          | none => rw [hi2] at hx; cases hx
          | some y =>
            rw [hi2] at hx
            obtain rfl := Option.some.inj hx
            have hm := List.mem_of_getElem? hi2
            obtain ⟨y1, y2⟩ := z7 y hm
            have yl := l5 y hm
            have y1 := e6 _ _ y1
            have y2 := e6 _ _ y2
            walk_at "s"
            refine u_WPacket (dx := y.dx) (oc := y.oc) (a := y.a) (t := y.t) (ns := y.ns) ⟨by walk_at "look", by walk_at "look"⟩ (by omega) ?_
            walk_at "s"
            rename_i p9 H9 f9 e9 h9
            exact hq _ _ (by walk_at "same") fun H3 st => ⟨y, p9, hi2, rfl, (ne_of_none hacc f9).symm, st _ _ h9 (ne_of_none hacc f9).symm⟩
        · rintro i y H2 H3 st ⟨p, a, h1, h2, h3, h4⟩
          exact ⟨p, a, h1, h2, h3, st _ _ h4 h3⟩
        · intro ys3 H5 e7 hDp hl7 hr7
          have hcc : H5 cc = some (.lst ([V.ref hp9] ++ ys ++ ys2)) := by walk_at "look"
          have e8 : Same H4 H5 := by walk_at "same"
          have c5 : CdsAt H5 ys3 (qs.map fun q => pkN q.a q.t q.ns) := CdsAt.of (by rw [hl7, List.length_map]) fun i y hy => by
            obtain ⟨u, p, r1, r2, _, r4⟩ := hr7 i y hy
            exact ⟨u, p, r1, r2, r4⟩
          have c6 := (c4.ext e8).app c5
          have hl8 : ys3.length ≤ 100 := by rw [hl7, List.length_map]; exact l3
          have e9 : Same H H5 := fun b o h => e8 _ _ (e6 _ _ h)
          clear e7 hr7 fcc fDp
          have c7 : CdsAt H5 ([V.ref hp9] ++ ys ++ ys2 ++ ys3) (codesN g o ls ks qs) := c6
          have hcl : (codesN g o ls ks qs).length ≤ 301 := by simp [codesN]; omega
          generalize hcg : codesN g o ls ks qs = cs at hc q c7 hcl
          have hxl := c7.1
          walk_at "s"
          refine ⟨_, _, rfl, rfl, by decide +kernel, ?_⟩
          refine c_m1 (c_c (c_isstr ?_))
          walk_at "s"
          rename_i cl9 fcl Dq fDq
          refine c_mapV (xs := [V.ref hp9] ++ ys ++ ys2 ++ ys3) (cs.map fun c => V.str (lineS c ++ ("\n" : Str))) (by rw [List.length_map, hxl]) ?_ (by omega) fDq ?_ ?_ ?_
          · walk_at "look"
          · exact fun _ => rfl
          · intro i x y H' hx hy e Q' hq
            obtain ⟨a, c, r1, rfl, r3⟩ := c7.2 i x hx
            rw [List.getElem?_map, r1] at hy
            obtain rfl := Option.some.inj hy
            have hn := hc c (List.mem_of_getElem? r1)
            have hll := line_len hn
            walk_at "s"
            refine u_WLine (ns := c) (by walk_at "look") rfl hn ?_
            walk_at "s"
            refine ⟨_, _, rfl, rfl, by rw [nl_len, sizeLine_eq]; omega, ?_⟩
            exact hq _ (by walk_at "same")
          · intro H6 e10 hDq
            have hDq2 : H6 Dq = some (.lst ((cs.map fun c => lineS c ++ ("\n" : Str)).map V.str)) := by rw [hDq, List.map_map]; rfl
            have hs := lines_sum hc
            have hs2 : cs.length * 42001 ≤ 301 * 42001 := Nat.mul_le_mul_right _ hcl
            have hj := join_len (cs.map fun c => lineS c ++ ("\n" : Str))
            refine ⟨_, _, cs.map fun c => lineS c ++ ("\n" : Str), rfl, rfl, .inl (SqL.of hDq2), ?_, ?_⟩
            · rw [show (Str.ofString "").length = 0 by decide +kernel]
              omega
            refine ⟨_, _, rfl, rfl, ?_, ?_⟩
            · rw [show ((Str.ofString "throughline host 1") ++ (Str.ofString "\n")).length = 19 by decide +kernel, show Str.ofString "" = Str.empty by decide +kernel, sizeLine_eq]
              omega
            · refine lk_v (q H6 (by walk_at "same")) ?_
              rw [show Str.ofString "" = Str.empty by decide +kernel]
              rfl
theorem ok_save_host (W : Wld K mg) : GFn P w K mg base "save_host" 6 ["host"] (spSave K) := by
  obtain ⟨fd, F1, F⟩ := fo_save_host (P := P) (w := w) (base := base) W
  exact ⟨⟨_, fd, F1, W.g_save_host, F.kp, F.bindsN fun _ _ _ _ _ _ us hl => match us, hl with | [_], _ => rfl⟩⟩
theorem u_Save {B : HA} {g : HD} {o : OptD} {ls : List (Int × Int)} {ks : List SkX} {qs : List PkX} {H : Hp} {Q : VK} (h : FullOK K H B g o ls ks qs) (hu : ∀ p ∈ ls, ∀ q ∈ ls, p.1 = q.1 → p = q) (l1 : ls.length ≤ 100) (l2 : ks.length ≤ 100) (l3 : qs.length ≤ 100) (l4 : ∀ y ∈ ks, y.d.octs.length ≤ 900 ∧ ∃ z, y.d.alarm = .int z) (l5 : ∀ q ∈ qs, q.ns.length ≤ 900)
    (hc : ∀ c ∈ codesN g o ls ks qs, Nums c) (q : RV (.str (textS (codesN g o ls ks qs))) H Q) : spSave K [.ref B.h] H Q E0 := ⟨B, g, o, ls, ks, qs, rfl, h, hu, l1, l2, l3, l4, l5, hc, q⟩
end
end
/-! part D23 -/
section
set_option maxHeartbeats 4000000
open PySem PySem.Spec PyProof.Rows L2 ClX

section
variable {P : Program} [PrOk P] {w : World} {K : PySem.W.Frag} {mg : Str → Option Value} {base : Heap}
/-- a reader p within a def that fills in the objects of S -/
structure Rs (K : PySem.W.Frag) (S : List Addr) (H1 H : Hp) (p dx nl : Addr) (ln : Int) (ns : List Int) (t : Nat) (rest : List Int) : Prop where
  kp : Kp S H1 H
  rd : RdA K H p dx nl ln t
  nl : H nl = some (.lst (nis ns))
  dr : ns.drop t = rest
structure Rap (S : List Addr) (p s nl : Addr) : Prop where
  hp : p ∈ S
  hs : s ∈ S
  n1 : nl ≠ p
  n2 : s ≠ p
  n3 : s ≠ nl
theorem kp_refl {S : List Addr} {H : Hp} : Kp S H H := fun _ _ h _ => h
theorem kp_trans {S : List Addr} {H H1 H2 : Hp} (a : Kp S H H1) (b : Kp S H1 H2) : Kp S H H2 := fun x o h n => b x o (a x o h n) n
theorem kp_fin {p s : Addr} {H H1 H' : Hp} (a : ∀ b o, H b = some o → H1 b = some o) (k : Kp [p, s] H1 H') (f : H s = none) : Kp [p] H H' := fun b o hb hn => k b o (a b o hb) (by
  intro hm
  rcases List.mem_cons.mp hm with h | h
  · exact hn (by rw [h]; exact mem0)
  · rw [List.mem_singleton.mp h, f] at hb
    cases hb)
section
variable {σ : L2.St} {D : Ends} {S : List Addr} {H1 H H' : Hp} {p dx nl s : Addr} {ln : Int} {ns rest : List Int} {t : Nat}
theorem Rs.step {r r' : List Int} {t' : Nat} (R : Rs K S H1 H p dx nl ln ns t r) (hp : p ∈ S) (n1 : nl ≠ p) (e : Kp [p] H H') (rd : RdA K H' p dx nl ln t') (dr : ns.drop t' = r') : Rs K S H1 H' p dx nl ln ns t' r' :=
  ⟨fun b o hb hn => e b o (R.kp b o hb hn) (fun z => hn (by rw [List.mem_singleton.mp z]; exact hp)), rd, e _ _ R.nl (fun z => n1 (List.mem_singleton.mp z)), dr⟩
theorem Rs.put {o : HO} (R : Rs K S H1 H p dx nl ln ns t rest) (A : Rap S p s nl) : Rs K S H1 (upd H s o) p dx nl ln ns t rest :=
  ⟨fun b u hb hn => upd_app (R.kp b u hb hn) (fun z => hn (by rw [z]; exact A.hs)), upd_app R.rd A.n2.symm, upd_app R.nl A.n3.symm, R.dr⟩
theorem Rs.re (R : Rs K S H1 H p dx nl ln ns t rest) : Rs K S H H p dx nl ln ns t rest := ⟨kp_refl, R.rd, R.nl, R.dr⟩
variable {C sdx : Addr} {R : Type} {fs : R → List (Str × V)} {set : V → R → R} {r : R} {i j : Nat}
theorem stay (A : Rap S p s nl) {o : HO} (e : Kp [p] H H') (h : H s = some o) : H' s = some o := e _ _ h (fun z => A.n2 (List.mem_singleton.mp z))
theorem c_gnum {n : Int} (hi : σ[i]? = some (some (.ref p))) (hj : σ[j]? = some (some (.ref s))) (hR : Rs K S H1 H p dx nl ln ns t (n :: rest)) (hs : H s = some (.ins C sdx (fs r))) (A : Rap S p s nl)
    (k : ∀ t' H', Rs K S H1 H' p dx nl ln ns t' rest → H' s = some (.ins C sdx (fs (set (.int n) r))) → D.nx σ H') : sPut C fs set (tVar j) (tMeth (He.ga K "CodeReader") "number" (spNumber K) [] E0 (tVar i) tNil) D σ H := by
  refine c_put (c_meth (c_var hi ⟨p, dx, _, rfl, hR.rd, by kernel_rfl, c_nil (u_Number hR.rd hR.nl A.n1 hR.dr fun t' H' e rd dr le => c_var hj ⟨s, sdx, r, rfl, stay A e hs, ?_⟩)⟩))
  exact k t' _ ((hR.step A.hp A.n1 e rd dr).put A) upd_same
theorem c_gflag (b : Bool) {n : Int} (hi : σ[i]? = some (some (.ref p))) (hj : σ[j]? = some (some (.ref s))) (hR : Rs K S H1 H p dx nl ln ns t (n :: rest)) (hn : n = b2i b) (hs : H s = some (.ins C sdx (fs r))) (A : Rap S p s nl)
    (k : ∀ t' H', Rs K S H1 H' p dx nl ln ns t' rest → H' s = some (.ins C sdx (fs (set (.bl b) r))) → D.nx σ H') : sPut C fs set (tVar j) (tMeth (He.ga K "CodeReader") "flag" (spFlag K) [] E0 (tVar i) tNil) D σ H := by
  subst hn
  refine c_put (c_meth (c_var hi ⟨p, dx, _, rfl, hR.rd, by kernel_rfl, c_nil (u_Flagb hR.rd hR.nl A.n1 hR.dr fun t' H' e rd dr le => c_var hj ⟨s, sdx, r, rfl, stay A e hs, ?_⟩)⟩))
  exact k t' _ ((hR.step A.hp A.n1 e rd dr).put A) upd_same
theorem c_gmay0 (hi : σ[i]? = some (some (.ref p))) (hj : σ[j]? = some (some (.ref s))) (hR : Rs K S H1 H p dx nl ln ns t (0 :: rest)) (hs : H s = some (.ins C sdx (fs r))) (A : Rap S p s nl)
    (k : ∀ t' H', Rs K S H1 H' p dx nl ln ns t' rest → H' s = some (.ins C sdx (fs (set .non r))) → D.nx σ H') : sPut C fs set (tVar j) (tMeth (He.ga K "CodeReader") "maybe" (spMaybe K) [] E0 (tVar i) tNil) D σ H := by
  refine c_put (c_meth (c_var hi ⟨p, dx, _, rfl, hR.rd, by kernel_rfl, c_nil (u_Maybe0 hR.rd hR.nl A.n1 hR.dr fun t' H' e rd dr le => c_var hj ⟨s, sdx, r, rfl, stay A e hs, ?_⟩)⟩))
  exact k t' _ ((hR.step A.hp A.n1 e rd dr).put A) upd_same
theorem c_gmay1 {n : Int} (hi : σ[i]? = some (some (.ref p))) (hj : σ[j]? = some (some (.ref s))) (hR : Rs K S H1 H p dx nl ln ns t (1 :: n :: rest)) (hs : H s = some (.ins C sdx (fs r))) (A : Rap S p s nl)
    (k : ∀ t' H', Rs K S H1 H' p dx nl ln ns t' rest → H' s = some (.ins C sdx (fs (set (.int n) r))) → D.nx σ H') : sPut C fs set (tVar j) (tMeth (He.ga K "CodeReader") "maybe" (spMaybe K) [] E0 (tVar i) tNil) D σ H := by
  refine c_put (c_meth (c_var hi ⟨p, dx, _, rfl, hR.rd, by kernel_rfl, c_nil (u_Maybe1 hR.rd hR.nl A.n1 hR.dr fun t' H' e rd dr le => c_var hj ⟨s, sdx, r, rfl, stay A e hs, ?_⟩)⟩))
  exact k t' _ ((hR.step A.hp A.n1 e rd dr).put A) upd_same
theorem Rs.fresh {l : Addr} {o : HO} (R : Rs K [p, s] H1 H p dx nl ln ns t rest) (hs : H s = some o) (f : H l = none) : H1 l = none := by
  cases q : H1 l with
  | none => rfl
  | some u =>
    by_cases hm : l ∈ [p, s]
    · rcases List.mem_cons.mp hm with h | h
      · rw [h, R.rd] at f
        cases f
      · rw [List.mem_singleton.mp h, hs] at f
        cases f
    · rw [R.kp l u q hm] at f
      cases f
theorem c_gmany (els : List Int) (hi : σ[i]? = some (some (.ref p))) (hj : σ[j]? = some (some (.ref s))) (hR : Rs K [p, s] H1 H p dx nl ln ns t ((els.length : Int) :: (els ++ rest))) (hl : els.length ≤ 10000) (hs : H s = some (.ins C sdx (fs r))) (A : Rap [p, s] p s nl)
    (k : ∀ t' l H', H1 l = none → Kp [p, s] H1 H' → Rs K [p, s] H' H' p dx nl ln ns t' rest → H' s = some (.ins C sdx (fs (set (.ref l) r))) → H' l = some (.lst (nis els)) → D.nx σ H') : sPut C fs set (tVar j) (tMeth (He.ga K "CodeReader") "many" (spMany K) [] E0 (tVar i) tNil) D σ H := by
  refine c_put (c_meth (c_var hi ⟨p, dx, _, rfl, hR.rd, by kernel_rfl, c_nil (u_Many els hR.rd hR.nl A.n1 hR.dr hl fun t' l H' fl e rd dr le hh => c_var hj ⟨s, sdx, r, rfl, stay A e hs, ?_⟩)⟩))
  have R2 := (hR.step A.hp A.n1 e rd dr).put A (o := .ins C sdx (fs (set (.ref l) r)))
  exact k t' l _ (hR.fresh hs fl) R2.kp R2.re upd_same (upd_app hh (ne_of_none hs fl).symm)
theorem c_gmany0 (hi : σ[i]? = some (some (.ref p))) (hj : σ[j]? = some (some (.ref s))) (hR : Rs K [p, s] H1 H p dx nl ln ns t (0 :: rest)) (hs : H s = some (.ins C sdx (fs r))) (A : Rap [p, s] p s nl)
    (k : ∀ t' l H', H1 l = none → Kp [p, s] H1 H' → Rs K [p, s] H' H' p dx nl ln ns t' rest → H' s = some (.ins C sdx (fs (set (.ref l) r))) → H' l = some (.lst []) → D.nx σ H') : sPut C fs set (tVar j) (tMeth (He.ga K "CodeReader") "many" (spMany K) [] E0 (tVar i) tNil) D σ H :=
  c_gmany [] hi hj hR (by decide) hs A k
theorem c_gpairs0 (hi : σ[i]? = some (some (.ref p))) (hj : σ[j]? = some (some (.ref s))) (hR : Rs K [p, s] H1 H p dx nl ln ns t (0 :: rest)) (hs : H s = some (.ins C sdx (fs r))) (A : Rap [p, s] p s nl)
    (k : ∀ t' l H', H1 l = none → Kp [p, s] H1 H' → Rs K [p, s] H' H' p dx nl ln ns t' rest → H' s = some (.ins C sdx (fs (set (.ref l) r))) → H' l = some (.lst []) → D.nx σ H') : sPut C fs set (tVar j) (tMeth (He.ga K "CodeReader") "pairs" (spPairs0 K) [] E0 (tVar i) tNil) D σ H := by
  refine c_put (c_meth (c_var hi ⟨p, dx, _, rfl, hR.rd, by kernel_rfl, c_nil (u_Pairs0 hR.rd hR.nl A.n1 hR.dr fun t' l H' fl e rd dr le hh => c_var hj ⟨s, sdx, r, rfl, stay A e hs, ?_⟩)⟩))
  have R2 := (hR.step A.hp A.n1 e rd dr).put A (o := .ins C sdx (fs (set (.ref l) r)))
  exact k t' l _ (hR.fresh hs fl) R2.kp R2.re upd_same (upd_app hh (ne_of_none hs fl).symm)
theorem c_gchoice {a : Int} (m : Nat) (ys : List Str) (z : Str) {tp : Addr} (hi : σ[i]? = some (some (.ref p))) (hj : σ[j]? = some (some (.ref s))) (hR : Rs K S H1 H p dx nl ln ns t (a :: rest)) (ha : a = (m : Int)) (h3 : ∀ H, SqT K H tp (ys.map V.str)) (hz : ys[m]? = some z) (hs : H s = some (.ins C sdx (fs r))) (A : Rap S p s nl)
    (k : ∀ t' H', Rs K S H1 H' p dx nl ln ns t' rest → H' s = some (.ins C sdx (fs (set (.str z) r))) → D.nx σ H') : sPut C fs set (tVar j) (tMeth (He.ga K "CodeReader") "choice" (spChoice K) [] E0 (tVar i) (tCons (tC (.ref tp)) tNil)) D σ H := by
  refine c_put (c_meth (c_var hi ⟨p, dx, _, rfl, hR.rd, by kernel_rfl, c_cons (c_c (c_nil (u_Choice m ys z hR.rd hR.nl A.n1 hR.dr ha h3 hz fun t' H' e rd dr le => c_var hj ⟨s, sdx, r, rfl, stay A e hs, ?_⟩)))⟩))
  exact k t' _ ((hR.step A.hp A.n1 e rd dr).put A) upd_same
theorem c_gfnum {f : Str} {fs : R → List (Str × V)} {set : V → R → R} {n : Int} (hi : σ[i]? = some (some (.ref p))) (hj : σ[j]? = some (some (.ref s))) (hR : Rs K S H1 H p dx nl ln ns t (n :: rest)) (hs : H s = some (.ins C sdx (fs r))) (A : Rap S p s nl) (c : Cls K C) (na : NoAttr K C f) (hp : ∀ y r, putF f y (fs r) = fs (set y r)) (hl : (fs r).length < 1000)
    (k : ∀ t' H', Rs K S H1 H' p dx nl ln ns t' rest → H' s = some (.ins C sdx (fs (set (.int n) r))) → D.nx σ H') : sFld K (tVar j) (tMeth (He.ga K "CodeReader") "number" (spNumber K) [] E0 (tVar i) tNil) f D σ H := by
  refine (show tMeth (He.ga K "CodeReader") "number" (spNumber K) [] E0 (tVar i) tNil σ H _ from ?_)
  refine c_meth (c_var hi ⟨p, dx, _, rfl, hR.rd, by kernel_rfl, c_nil (u_Number hR.rd hR.nl A.n1 hR.dr fun t' H' e rd dr le => c_var hj ⟨s, C, sdx, fs r, rfl, stay A e hs, c, na, hl, ?_⟩)⟩)
  rw [hp]
  exact k t' _ ((hR.step A.hp A.n1 e rd dr).put A) upd_same
end
local macro_rules | `(tactic| walk_at "s1") => `(tactic| first
  | ((with_reducible refine' c_gnum ?a ?b ?c ?d ?e ?k); (case a => rfl); (case b => rfl); (case c => assumption); (case d => assumption); (case e => assumption); intro t9 H9 R9 h9; dsimp only at h9; have k9 := Rs.kp R9)
  | ((with_reducible refine' c_gmay0 ?a ?b ?c ?d ?e ?k); (case a => rfl); (case b => rfl); (case c => assumption); (case d => assumption); (case e => assumption); intro t9 H9 R9 h9; dsimp only at h9; have k9 := Rs.kp R9)
  | ((with_reducible refine' c_gmay1 ?a ?b ?c ?d ?e ?k); (case a => rfl); (case b => rfl); (case c => assumption); (case d => assumption); (case e => assumption); intro t9 H9 R9 h9; dsimp only at h9; have k9 := Rs.kp R9)
  | ((with_reducible refine' c_gflag _ ?a ?b ?c ?h ?d ?e ?k); (case a => rfl); (case b => rfl); (case c => assumption); (case h => exact Eq.refl (b2i _)); (case d => assumption); (case e => assumption); intro t9 H9 R9 h9; dsimp only at h9; have k9 := Rs.kp R9)
  | ((with_reducible refine' c_gflag false ?a ?b ?c ?h ?d ?e ?k); (case a => rfl); (case b => rfl); (case c => assumption); (case h => rfl); (case d => assumption); (case e => assumption); intro t9 H9 R9 h9; dsimp only at h9; have k9 := Rs.kp R9)
  | ((with_reducible refine' c_gmany _ ?a ?b ?c ?h ?d ?e ?k); (case a => rfl); (case b => rfl); (case c => assumption); (case h => first | assumption | decide); (case d => assumption); (case e => assumption); intro t9 l9 H9 f9 k9 R9 h9 q9; dsimp only at h9)
  | ((with_reducible refine' c_gmany0 ?a ?b ?c ?d ?e ?k); (case a => rfl); (case b => rfl); (case c => assumption); (case d => assumption); (case e => assumption); intro t9 l9 H9 f9 k9 R9 h9 q9; dsimp only at h9)
  | ((with_reducible refine' c_gpairs0 ?a ?b ?c ?d ?e ?k); (case a => rfl); (case b => rfl); (case c => assumption); (case d => assumption); (case e => assumption); intro t9 l9 H9 f9 k9 R9 h9 q9; dsimp only at h9))
def RRSnd (K : PySem.W.Frag) (p dx nl : Addr) (ln : Int) (ns rest : List Int) (o : OptD) (d : EndD) (H : Hp) (Q : VK) : Prop := ∀ s sd q k (t : Nat) H', H s = none → H q = none → H k = none → Kp [p] H H' → RdA K H' p dx nl ln t → ns.drop t = rest →
  H' s = some (.ins (He.ga K "Sender") sd (RSender.fs ⟨.int o.room, .int 0, .int d.nxt, .int d.octs.length, .bl d.fin, .int 1, .non, .int 0, .int 0, .int 0, .ref q, .ref k⟩)) → H' q = some (.lst (nis d.octs)) → H' k = some (.lst []) → Q (.ref s) H'
def spRSend (K : PySem.W.Frag) : Sp := fun vs H Q _ => ∃ (p dx nl : Addr) (ln : Int) (t : Nat) (ns rest : List Int) (o : OptD) (d : EndD), vs = [.ref p, .int o.room] ∧ RdA K H p dx nl ln t ∧ H nl = some (.lst (nis ns)) ∧ nl ≠ p ∧
  ns.drop t = 0 :: d.nxt :: (d.octs.length : Int) :: b2i d.fin :: 1 :: 0 :: 0 :: 0 :: 0 :: (d.octs.length : Int) :: (d.octs ++ (0 :: rest)) ∧ d.octs.length ≤ 10000 ∧ RRSnd K p dx nl ln ns rest o d H Q
abbrev N_read_sender : List Str := ["reader", "room", "sender"]
theorem sc_read_sender : FnScope N_read_sender ["reader", "room"] (defScope s_read_sender) := ⟨rfl, rfl, rfl, by decide +kernel, rfl, by decide +kernel, by decide +kernel⟩
theorem fo_read_sender (W : Wld K mg) : ∃ fd, FnOk P w K mg base CX0 4 (pl_read_sender.ad K) fd ["reader", "room"] (spRSend K) ∧ FunD K "read_sender" "read_sender" (defArgs s_read_sender) (defBody s_read_sender) (defScope s_read_sender) [] [] (pl_read_sender.ad K) fd := by
  obtain ⟨fd, F⟩ := W.d_read_sender
  refine ⟨fd, F.ok sc_read_sender (fun vs H Q E h => ?_) (fun cdv A outer s H vs Q E hr h => ?_), F⟩
  · obtain ⟨p, dx, nl, ln, t, ns, rest, o, d, rfl, z1, z2, n1, hd, l1, q⟩ := h; rfl
  · obtain ⟨p, dx, nl, ln, t, ns, rest, o, d, rfl, z1, z2, n1, hd, l1, q⟩ := h
    have hu := hu_of hr
    refine ⟨_, PSs.nox (pss_cons (ps_set (i := 2) sc_read_sender.nd rfl (Or.inl rfl) (pe_mk (ok_Sender_make (P := P) (K := K) W) (hr.mono (by decide)) (by rfl) (pa_cons (pv 1) pa_nil)))
      (pss_cons (ps_put W.c_Sender W.n_Sender_una RSender.p_una RSender.len (pv 2) (pe_mt0 (ok_CodeReader_number (P := P) (K := K) W) (hr.mono (by decide)) (pv 0)))
      (pss_cons (ps_put W.c_Sender W.n_Sender_nxt RSender.p_nxt RSender.len (pv 2) (pe_mt0 (ok_CodeReader_number (P := P) (K := K) W) (hr.mono (by decide)) (pv 0)))
      (pss_cons (ps_put W.c_Sender W.n_Sender_written RSender.p_written RSender.len (pv 2) (pe_mt0 (ok_CodeReader_number (P := P) (K := K) W) (hr.mono (by decide)) (pv 0)))
      (pss_cons (ps_put W.c_Sender W.n_Sender_finished RSender.p_finished RSender.len (pv 2) (pe_mt0 (ok_CodeReader_flag (P := P) (K := K) W) (hr.mono (by decide)) (pv 0)))
      (pss_cons (ps_put W.c_Sender W.n_Sender_edge RSender.p_edge RSender.len (pv 2) (pe_mt0 (ok_CodeReader_number (P := P) (K := K) W) (hr.mono (by decide)) (pv 0)))
      (pss_cons (ps_put W.c_Sender W.n_Sender_recovery RSender.p_recovery RSender.len (pv 2) (pe_mt0 (ok_CodeReader_maybe (P := P) (K := K) W) (hr.mono (by decide)) (pv 0)))
      (pss_cons (ps_put W.c_Sender W.n_Sender_resend RSender.p_resend RSender.len (pv 2) (pe_mt0 (ok_CodeReader_number (P := P) (K := K) W) (hr.mono (by decide)) (pv 0)))
      (pss_cons (ps_put W.c_Sender W.n_Sender_lost RSender.p_lost RSender.len (pv 2) (pe_mt0 (ok_CodeReader_number (P := P) (K := K) W) (hr.mono (by decide)) (pv 0)))
      (pss_cons (ps_put W.c_Sender W.n_Sender_repeated RSender.p_repeated RSender.len (pv 2) (pe_mt0 (ok_CodeReader_number (P := P) (K := K) W) (hr.mono (by decide)) (pv 0)))
      (pss_cons (ps_put W.c_Sender W.n_Sender__queue RSender.p_queue RSender.len (pv 2) (pe_mt0 (ok_CodeReader_many (P := P) (K := K) W) (hr.mono (by decide)) (pv 0)))
      (pss_cons (ps_put W.c_Sender W.n_Sender__sacked RSender.p_sacked RSender.len (pv 2) (pe_mt0 (ok_CodeReader_pairs (P := P) (K := K) W) (hr.mono (by decide)) (pv 0)))
      (pss_one (ps_ret (pv 2))))))))))))))), ?_⟩
    walk_at "s"
    rename_i s sd fs fsd ns1
    refine u_SenderI (by walk_at "look") ?_
    intro qa ka H1 fq fk nq nk nqk e1 h1 hq hk
    have R : Rs K [p, s] H1 H1 p dx nl ln ns t _ := ⟨kp_refl, by walk_at "look", by walk_at "look", hd⟩
    have A : Rap [p, s] p s nl := ⟨mem0, mem1, n1, by walk_at "ne", by walk_at "ne"⟩
    have h1 : H1 s = some (.ins (He.ga K "Sender") sd (RSender.fs ⟨.int o.room, .int 0, .int 0, .int 0, .bl false, .int 1, .non, .int 0, .int 0, .int 0, .ref qa, .ref ka⟩)) := h1
    walk_at "s"
    rename_i tq qb Hq fq9 kq Rq hq9 qq t8 kb H8 f8 k8 R8 h8 q8
    have f8 := (Rs.mk kq Rq.rd Rq.nl Rq.dr).fresh hq9 f8
    exact q s sd qb kb t8 H8 (by walk_at "fresh") (by walk_at "fresh") (by walk_at "fresh") (kp_fin (fun b o h => by walk_at "look") (kp_trans kq k8) (by walk_at "fresh")) R8.rd R8.dr h8 (by walk_at "look") q8
theorem ok_read_sender (W : Wld K mg) : GFn P w K mg base "read_sender" 4 ["reader", "room"] (spRSend K) := by
  obtain ⟨fd, F1, F⟩ := fo_read_sender (P := P) (w := w) (base := base) W
  exact ⟨⟨_, fd, F1, W.g_read_sender, F.kp, F.bindsN fun _ _ _ _ _ _ us hl => match us, hl with | [_, _], _ => rfl⟩⟩
theorem u_RSend {p dx nl : Addr} {ln : Int} {t : Nat} {ns rest : List Int} {o : OptD} {d : EndD} {H : Hp} {Q : VK} (h1 : RdA K H p dx nl ln t) (h2 : H nl = some (.lst (nis ns))) (n1 : nl ≠ p) (hd : ns.drop t = senN d ++ rest) (l : d.octs.length ≤ 10000) (q : RRSnd K p dx nl ln ns rest o d H Q) : spRSend K [.ref p, .int o.room] H Q E0 :=
  ⟨p, dx, nl, ln, t, ns, rest, o, d, rfl, h1, h2, n1, by rw [hd]; simp [senN], l, q⟩
theorem c_loop0 {a : Addr} {g : TG} {tb : TS} {D : Ends} {σ : L2.St} {H : Hp} (h : H a = some (.lst [])) (k : D.nx σ H) :
    ∃ W : Nat → Nat → L2.St → Hp → Prop, (∃ m, W 0 m σ H) ∧ ∀ i m σ H, W i m σ H →
      ((Itl K a).stop i H ∧ D.nx σ H) ∨ ((Itl K a).go i H ∧ ∃ N : L2.St → Hp → Prop, (∀ σ' H', N σ' H' → ∃ m', m' < m ∧ W (i + 1) m' σ' H') ∧ ∀ x H', (Itl K a).yld i H x H' → g x σ H' fun σ2 H2 => tb { D with nx := N, ct := N, bk := D.nx } σ2 H2) :=
  c_loopL (xs := []) (fun _ σ' H' => σ' = σ ∧ H' = H) ⟨rfl, rfl⟩ (by rintro i σ' H' ⟨_, rfl⟩; exact h) (by intro i x σ' H' hx; simp at hx) (by rintro σ' H' ⟨rfl, rfl⟩; exact k)
def RRRcv (K : PySem.W.Frag) (p dx nl : Addr) (ln : Int) (ns rest : List Int) (o : OptD) (H : Hp) (Q : VK) : Prop := ∀ s sd y h (t : Nat) H', H s = none → H y = none → H h = none → Kp [p] H H' → RdA K H' p dx nl ln t → ns.drop t = rest →
  H' s = some (.ins (He.ga K "Receiver") sd (RReceiver.fs ⟨.int o.room, .int 0, .int (o.room + 1), .non, .int 0, .ref y, .ref h⟩)) → H' y = some (.lst []) → H' h = some (.dK []) → Q (.ref s) H'
def spRRecv (K : PySem.W.Frag) : Sp := fun vs H Q _ => ∃ (p dx nl : Addr) (ln : Int) (t : Nat) (ns rest : List Int) (o : OptD), vs = [.ref p, .int o.room] ∧ RdA K H p dx nl ln t ∧ H nl = some (.lst (nis ns)) ∧ nl ≠ p ∧
  ns.drop t = 0 :: (o.room + 1) :: 0 :: 0 :: 0 :: 0 :: rest ∧ RRRcv K p dx nl ln ns rest o H Q
abbrev N_read_receiver : List Str := ["reader", "room", "receiver", "held", "last", "offset", "octet"]
theorem sc_read_receiver : FnScope N_read_receiver ["reader", "room"] (defScope s_read_receiver) := ⟨rfl, rfl, rfl, by decide +kernel, rfl, by decide +kernel, by decide +kernel⟩
theorem fo_read_receiver (W : Wld K mg) : ∃ fd, FnOk P w K mg base CX0 4 (pl_read_receiver.ad K) fd ["reader", "room"] (spRRecv K) ∧ FunD K "read_receiver" "read_receiver" (defArgs s_read_receiver) (defBody s_read_receiver) (defScope s_read_receiver) [] [] (pl_read_receiver.ad K) fd := by
  obtain ⟨fd, F⟩ := W.d_read_receiver
  refine ⟨fd, F.ok sc_read_receiver (fun vs H Q E h => ?_) (fun cdv A outer s H vs Q E hr h => ?_), F⟩
  · obtain ⟨p, dx, nl, ln, t, ns, rest, o, rfl, z1, z2, n1, hd, q⟩ := h; rfl
  · obtain ⟨p, dx, nl, ln, t, ns, rest, o, rfl, z1, z2, n1, hd, q⟩ := h
    have hu := hu_of hr
    refine ⟨_, PSs.nox (pss_cons (ps_set (i := 2) sc_read_receiver.nd rfl (Or.inl rfl) (pe_mk (ok_Receiver_make (P := P) (K := K) W) (hr.mono (by decide)) (by rfl) (pa_cons (pv 1) pa_nil)))
      (pss_cons (ps_put W.c_Receiver W.n_Receiver_nxt RReceiver.p_nxt RReceiver.len (pv 2) (pe_mt0 (ok_CodeReader_number (P := P) (K := K) W) (hr.mono (by decide)) (pv 0)))
      (pss_cons (ps_put W.c_Receiver W.n_Receiver_edge RReceiver.p_edge RReceiver.len (pv 2) (pe_mt0 (ok_CodeReader_number (P := P) (K := K) W) (hr.mono (by decide)) (pv 0)))
      (pss_cons (ps_put W.c_Receiver W.n_Receiver_end RReceiver.p_end_ RReceiver.len (pv 2) (pe_mt0 (ok_CodeReader_maybe (P := P) (K := K) W) (hr.mono (by decide)) (pv 0)))
      (pss_cons (ps_put W.c_Receiver W.n_Receiver_recent RReceiver.p_recent RReceiver.len (pv 2) (pe_mt0 (ok_CodeReader_number (P := P) (K := K) W) (hr.mono (by decide)) (pv 0)))
      (pss_cons (ps_put W.c_Receiver W.n_Receiver__ready RReceiver.p_ready RReceiver.len (pv 2) (pe_mt0 (ok_CodeReader_many (P := P) (K := K) W) (hr.mono (by decide)) (pv 0)))
      (pss_cons (ps_set (i := 3) sc_read_receiver.nd rfl (Or.inl rfl) pe_dnewK)
      (pss_cons (ps_set (i := 4) sc_read_receiver.nd rfl (Or.inl rfl) (pe_un un_neg pe_int))
      (pss_cons (ps_for PassesOwn.never rfl (pi_list (pe_mt0 (ok_CodeReader_pairs (P := P) (K := K) W) (hr.mono (by decide)) (pv 0))) (pg_tup (n := 2) rfl (pgs_cons (pg_name (i := 5) sc_read_receiver.nd rfl (Or.inl rfl)) (pgs_cons (pg_name (i := 6) sc_read_receiver.nd rfl (Or.inl rfl)) pgs_nil))) (pss_cons (ps_if (pt_cmpR op_le (pv 5) (pv 4) (nomark _)) (pss_one ps_never) pss_nil)
      (pss_cons (ps_dput hu (pv 3) (pv 5) (pv 6) rfl)
      (pss_one (ps_set (i := 4) sc_read_receiver.nd rfl (Or.inl rfl) (pv 5))))))
      (pss_cons (ps_put W.c_Receiver W.n_Receiver__held RReceiver.p_held RReceiver.len (pv 2) (pv 3))
      (pss_one (ps_ret (pv 2))))))))))))), ?_⟩
    walk_at "s"
    rename_i s sd fs fsd ns1
    refine u_ReceiverI (by walk_at "look") ?_
    intro ya ha H1 fy fh ny nh nyh e1 h1 hy hh
    have R : Rs K [p, s] H1 H1 p dx nl ln ns t _ := ⟨kp_refl, by walk_at "look", by walk_at "look", hd⟩
    have A : Rap [p, s] p s nl := ⟨mem0, mem1, n1, by walk_at "ne", by walk_at "ne"⟩
    have h1 : H1 s = some (.ins (He.ga K "Receiver") sd (RReceiver.fs ⟨.int o.room, .int 0, .int (o.room + 1), .non, .int 0, .ref ya, .ref ha⟩)) := h1
    walk_at "s"
    rename_i t7 y7 H7 f7 k7 R7 h7 q7 hd7 fd7
    have np7 : p ≠ hd7 := ne_of_none R7.rd fd7
    have nl7 : nl ≠ hd7 := ne_of_none R7.nl fd7
    have ns7 : s ≠ hd7 := ne_of_none h7 fd7
    have rd7 := R7.rd
    refine ⟨1, rfl, ?_⟩
    walk_at "s"
    refine u_Pairs0 (upd_app R7.rd np7) (upd_app R7.nl nl7) n1 R7.dr ?_
    intro t6 l6 H6 f6 e6 rd6 d6 le6 hl6
    have h6 : H6 s = _ := e6 _ _ (upd_app h7 ns7) (fun z => A.n2 (List.mem_singleton.mp z))
    have hh6 : H6 hd7 = some (.dK []) := e6 _ _ upd_same (fun z => np7 (List.mem_singleton.mp z).symm)
    have hy6 : H6 y7 = some (.lst []) := e6 _ _ (upd_app q7 (ne_of_none q7 fd7)) (by walk_at "nin")
    have k6 : Kp [p, s] H7 H6 := fun b o hb hn => e6 _ _ (upd_app hb (ne_of_none hb fd7)) (fun z => hn (by rw [List.mem_singleton.mp z]; exact mem0))
    have f7' := (Rs.mk k7 R7.rd R7.nl R7.dr).fresh h7 fd7
    refine c_lstl hl6 ?_
    refine c_loop0 hl6 ?_
    walk_at "s"
    exact q s sd y7 hd7 t6 _ (by walk_at "fresh") (by walk_at "fresh") (by walk_at "fresh") (kp_fin (fun b o h => by walk_at "look") (fun b o hb hn => upd_app (k6 _ _ (k7 _ _ hb hn) hn) (fun z => hn (by rw [z]; exact mem1))) (by walk_at "fresh")) (upd_app rd6 A.n2.symm) d6 (by walk_at "ins") (upd_app hy6 (by walk_at "ne")) (upd_app hh6 ns7.symm)
theorem ok_read_receiver (W : Wld K mg) : GFn P w K mg base "read_receiver" 4 ["reader", "room"] (spRRecv K) := by
  obtain ⟨fd, F1, F⟩ := fo_read_receiver (P := P) (w := w) (base := base) W
  exact ⟨⟨_, fd, F1, W.g_read_receiver, F.kp, F.bindsN fun _ _ _ _ _ _ us hl => match us, hl with | [_, _], _ => rfl⟩⟩
theorem u_RRecv {p dx nl : Addr} {ln : Int} {t : Nat} {ns rest : List Int} {o : OptD} {H : Hp} {Q : VK} (h1 : RdA K H p dx nl ln t) (h2 : H nl = some (.lst (nis ns))) (n1 : nl ≠ p) (hd : ns.drop t = recN o ++ rest) (q : RRRcv K p dx nl ln ns rest o H Q) : spRRecv K [.ref p, .int o.room] H Q E0 :=
  ⟨p, dx, nl, ln, t, ns, rest, o, rfl, h1, h2, n1, by rw [hd]; simp [recN], q⟩
end
end
/-! part D24 -/
section
set_option maxHeartbeats 4000000
open PySem PySem.Spec PyProof.Rows L2 ClX

local macro_rules | `(tactic| walk_at "s1") => `(tactic| first
  | ((with_reducible refine' c_gnum ?a ?b ?c ?d ?e ?k); (case a => rfl); (case b => rfl); (case c => assumption); (case d => assumption); (case e => assumption); intro t9 H9 R9 h9; dsimp only at h9; have k9 := Rs.kp R9)
  | ((with_reducible refine' c_gmay0 ?a ?b ?c ?d ?e ?k); (case a => rfl); (case b => rfl); (case c => assumption); (case d => assumption); (case e => assumption); intro t9 H9 R9 h9; dsimp only at h9; have k9 := Rs.kp R9)
  | ((with_reducible refine' c_gmay1 ?a ?b ?c ?d ?e ?k); (case a => rfl); (case b => rfl); (case c => assumption); (case d => assumption); (case e => assumption); intro t9 H9 R9 h9; dsimp only at h9; have k9 := Rs.kp R9)
  | ((with_reducible refine' c_gflag _ ?a ?b ?c ?h ?d ?e ?k); (case a => rfl); (case b => rfl); (case c => assumption); (case h => exact Eq.refl (b2i _)); (case d => assumption); (case e => assumption); intro t9 H9 R9 h9; dsimp only at h9; have k9 := Rs.kp R9)
  | ((with_reducible refine' c_gflag false ?a ?b ?c ?h ?d ?e ?k); (case a => rfl); (case b => rfl); (case c => assumption); (case h => rfl); (case d => assumption); (case e => assumption); intro t9 H9 R9 h9; dsimp only at h9; have k9 := Rs.kp R9)
  | ((with_reducible refine' c_gmany _ ?a ?b ?c ?h ?d ?e ?k); (case a => rfl); (case b => rfl); (case c => assumption); (case h => first | assumption | decide); (case d => assumption); (case e => assumption); intro t9 l9 H9 f9 k9 R9 h9 q9; dsimp only at h9)
  | ((with_reducible refine' c_gmany0 ?a ?b ?c ?d ?e ?k); (case a => rfl); (case b => rfl); (case c => assumption); (case d => assumption); (case e => assumption); intro t9 l9 H9 f9 k9 R9 h9 q9; dsimp only at h9)
  | ((with_reducible refine' c_gpairs0 ?a ?b ?c ?d ?e ?k); (case a => rfl); (case b => rfl); (case c => assumption); (case d => assumption); (case e => assumption); intro t9 l9 H9 f9 k9 R9 h9 q9; dsimp only at h9))

section
variable {P : Program} [PrOk P] {w : World} {K : PySem.W.Frag} {mg : Str → Option Value} {base : Heap}
def RRTrp (K : PySem.W.Frag) (p dx nl : Addr) (ln : Int) (ns rest : List Int) (o : OptD) (H : Hp) (Q : VK) : Prop := ∀ s sd (t : Nat) H', H s = none → Kp [p] H H' → RdA K H' p dx nl ln t → ns.drop t = rest → H' s = some (.ins (He.ga K "RoundTrip") sd (RRoundTrip.fs o.rT)) → Q (.ref s) H'
def spRTrip (K : PySem.W.Frag) : Sp := fun vs H Q _ => ∃ (p dx nl oa od : Addr) (ln : Int) (t : Nat) (ns rest : List Int) (o : OptD), vs = [.ref p, .ref oa] ∧ RdA K H p dx nl ln t ∧ H nl = some (.lst (nis ns)) ∧ nl ≠ p ∧ OAt K H oa od o ∧
  ns.drop t = 0 :: 0 :: o.wait :: 0 :: rest ∧ RRTrp K p dx nl ln ns rest o H Q
abbrev N_read_trip : List Str := ["reader", "options", "trip"]
theorem sc_read_trip : FnScope N_read_trip ["reader", "options"] (defScope s_read_trip) := ⟨rfl, rfl, rfl, by decide +kernel, rfl, by decide +kernel, by decide +kernel⟩
theorem fo_read_trip (W : Wld K mg) : ∃ fd, FnOk P w K mg base CX0 4 (pl_read_trip.ad K) fd ["reader", "options"] (spRTrip K) ∧ FunD K "read_trip" "read_trip" (defArgs s_read_trip) (defBody s_read_trip) (defScope s_read_trip) [] [] (pl_read_trip.ad K) fd := by
  obtain ⟨fd, F⟩ := W.d_read_trip
  refine ⟨fd, F.ok sc_read_trip (fun vs H Q E h => ?_) (fun cdv A outer s H vs Q E hr h => ?_), F⟩
  · obtain ⟨p, dx, nl, oa, od, ln, t, ns, rest, o, rfl, z1, z2, n1, zo, hd, q⟩ := h; rfl
  · obtain ⟨p, dx, nl, oa, od, ln, t, ns, rest, o, rfl, z1, z2, n1, zo, hd, q⟩ := h
    have hu := hu_of hr
    refine ⟨_, PSs.nox (pss_cons (ps_set (i := 2) sc_read_trip.nd rfl (Or.inl rfl) (pe_mk (ok_RoundTrip_make (P := P) (K := K) W) (hr.mono (by decide)) (by rfl) (pa_cons (pe_get W.c_Options W.n_Options_min_rto ROptions.l_min_rto (pv 1)) (pa_cons (pe_get W.c_Options W.n_Options_max_rto ROptions.l_max_rto (pv 1)) pa_nil))))
      (pss_cons (ps_put W.c_RoundTrip W.n_RoundTrip_srtt RRoundTrip.p_srtt RRoundTrip.len (pv 2) (pe_mt0 (ok_CodeReader_number (P := P) (K := K) W) (hr.mono (by decide)) (pv 0)))
      (pss_cons (ps_put W.c_RoundTrip W.n_RoundTrip_variance RRoundTrip.p_variance RRoundTrip.len (pv 2) (pe_mt0 (ok_CodeReader_number (P := P) (K := K) W) (hr.mono (by decide)) (pv 0)))
      (pss_cons (ps_put W.c_RoundTrip W.n_RoundTrip_rto RRoundTrip.p_rto RRoundTrip.len (pv 2) (pe_mt0 (ok_CodeReader_number (P := P) (K := K) W) (hr.mono (by decide)) (pv 0)))
      (pss_cons (ps_put W.c_RoundTrip W.n_RoundTrip_measured RRoundTrip.p_measured RRoundTrip.len (pv 2) (pe_mt0 (ok_CodeReader_flag (P := P) (K := K) W) (hr.mono (by decide)) (pv 0)))
      (pss_one (ps_ret (pv 2)))))))), ?_⟩
    walk_at "s"
    rename_i s sd fs fsd ns1
    refine u_RoundTripI (by walk_at "look") ?_
    intro H1 e1 h1
    have R : Rs K [p, s] H1 H1 p dx nl ln ns t _ := ⟨kp_refl, by walk_at "look", by walk_at "look", hd⟩
    have A : Rap [p, s] p s nl := ⟨mem0, mem1, n1, by walk_at "ne", by walk_at "ne"⟩
    walk_at "s"
    rename_i t7 H7 R7 h7 k7
    exact q s sd t7 H7 (by walk_at "fresh") (kp_fin (fun b o h => by walk_at "look") R7.kp (by walk_at "fresh")) R7.rd R7.dr h7
theorem ok_read_trip (W : Wld K mg) : GFn P w K mg base "read_trip" 4 ["reader", "options"] (spRTrip K) := by
  obtain ⟨fd, F1, F⟩ := fo_read_trip (P := P) (w := w) (base := base) W
  exact ⟨⟨_, fd, F1, W.g_read_trip, F.kp, F.bindsN fun _ _ _ _ _ _ us hl => match us, hl with | [_, _], _ => rfl⟩⟩
theorem u_RTrip {p dx nl oa od : Addr} {ln : Int} {t : Nat} {ns rest : List Int} {o : OptD} {H : Hp} {Q : VK} (h1 : RdA K H p dx nl ln t) (h2 : H nl = some (.lst (nis ns))) (n1 : nl ≠ p) (h3 : OAt K H oa od o) (hd : ns.drop t = triN o ++ rest) (q : RRTrp K p dx nl ln ns rest o H Q) : spRTrip K [.ref p, .ref oa] H Q E0 :=
  ⟨p, dx, nl, oa, od, ln, t, ns, rest, o, rfl, h1, h2, n1, h3, by rw [hd]; simp [triN], q⟩
def RRCtl (K : PySem.W.Frag) (p dx nl : Addr) (ln : Int) (ns rest : List Int) (o : OptD) (H : Hp) (Q : VK) : Prop := ∀ s sd (t : Nat) H', H s = none → Kp [p] H H' → RdA K H' p dx nl ln t → ns.drop t = rest → H' s = some (ctlO K o.cubic sd o.mss) → Q (.ref s) H'
def spRCtl (K : PySem.W.Frag) : Sp := fun vs H Q _ => ∃ (p dx nl oa od : Addr) (ln : Int) (t : Nat) (ns rest : List Int) (o : OptD), vs = [.ref p, .ref oa] ∧ RdA K H p dx nl ln t ∧ H nl = some (.lst (nis ns)) ∧ nl ≠ p ∧ OAt K H oa od o ∧
  ns.drop t = (10 * o.mss) :: 1073741824 :: 0 :: 0 :: 0 :: 0 :: rest ∧ RRCtl K p dx nl ln ns rest o H Q
local macro_rules | `(tactic| walk_at "s1") => `(tactic| first
  | ((with_reducible show sFld _ _ _ _ _ _ _); (refine' c_gfnum ?a ?b ?c ?d ?e ?f ?g ?h ?i ?k); (case a => rfl); (case b => rfl); (case c => assumption); (case d => assumption); (case e => assumption); (case f => assumption); (case g => assumption);
      (case h => first | exact RReno.p_cwnd | exact RReno.p_thresh | exact RReno.p_peak | exact RReno.p_prior | exact RReno.p_calm | exact RReno.p_credit | exact RCubic.p_cwnd | exact RCubic.p_thresh | exact RCubic.p_peak | exact RCubic.p_prior | exact RCubic.p_calm);
      (case i => first | exact RReno.len _ | exact RCubic.len _); intro t9 H9 R9 h9; dsimp only at h9; have k9 := Rs.kp R9))
abbrev N_read_control : List Str := ["reader", "options", "control", "numbers", "_"]
theorem sc_read_control : FnScope N_read_control ["reader", "options"] (defScope s_read_control) := ⟨rfl, rfl, rfl, by decide +kernel, rfl, by decide +kernel, by decide +kernel⟩
theorem fo_read_control (W : Wld K mg) : ∃ fd, FnOk P w K mg base CX0 5 (pl_read_control.ad K) fd ["reader", "options"] (spRCtl K) ∧ FunD K "read_control" "read_control" (defArgs s_read_control) (defBody s_read_control) (defScope s_read_control) [] [] (pl_read_control.ad K) fd := by
  obtain ⟨fd, F⟩ := W.d_read_control
  refine ⟨fd, F.ok sc_read_control (fun vs H Q E h => ?_) (fun cdv A outer s H vs Q E hr h => ?_), F⟩
  · obtain ⟨p, dx, nl, oa, od, ln, t, ns, rest, o, rfl, z1, z2, n1, zo, hd, q⟩ := h; rfl
  · obtain ⟨p, dx, nl, oa, od, ln, t, ns, rest, o, rfl, z1, z2, n1, zo, hd, q⟩ := h
    have hu := hu_of hr
    refine ⟨_, PSs.nox (pss_cons (ps_set (i := 2) sc_read_control.nd rfl (Or.inl rfl) (pe_ifExp (pt_cmpR op_eq (pe_get W.c_Options W.n_Options_control ROptions.l_control (pv 1)) pe_str (nomark _)) (pe_mk (ok_Cubic_make (P := P) (K := K) W) (hr.mono (by decide)) (by rfl) (pa_cons pe_int pa_nil)) (pe_mk (ok_Reno_make (P := P) (K := K) W) (hr.mono (by decide)) (by rfl) (pa_cons pe_int pa_nil))))
      (pss_cons (ps_fld (pv 2) (pe_mt0 (ok_CodeReader_number (P := P) (K := K) W) (hr.mono (by decide)) (pv 0)) rfl)
      (pss_cons (ps_fld (pv 2) (pe_mt0 (ok_CodeReader_number (P := P) (K := K) W) (hr.mono (by decide)) (pv 0)) rfl)
      (pss_cons (ps_fld (pv 2) (pe_mt0 (ok_CodeReader_number (P := P) (K := K) W) (hr.mono (by decide)) (pv 0)) rfl)
      (pss_cons (ps_fld (pv 2) (pe_mt0 (ok_CodeReader_number (P := P) (K := K) W) (hr.mono (by decide)) (pv 0)) rfl)
      (pss_cons (ps_fld (pv 2) (pe_mt0 (ok_CodeReader_number (P := P) (K := K) W) (hr.mono (by decide)) (pv 0)) rfl)
      (pss_cons (ps_if (pt_val (pe_callB call_isi (by rfl) W.f_isinstance bt_isinstance (pa_cons (pv 2) (pa_cons (pe_gref rfl W.g_Reno) pa_nil)))) (pss_one (ps_fld (pv 2) (pe_mt0 (ok_CodeReader_number (P := P) (K := K) W) (hr.mono (by decide)) (pv 0)) rfl)) (pss_one (ps_if (pt_val (pe_mt0 (ok_CodeReader_flag (P := P) (K := K) W) (hr.mono (by decide)) (pv 0))) pss_never pss_nil)))
      (pss_one (ps_ret (pv 2)))))))))), ?_⟩
    walk_at "s"
    cases hc : o.cubic
    · refine br_f (by rw [OptD.is_cubic, hc]) ?_
      rw [show RRCtl K p dx nl ln ns rest o H Q = RRCtl K p dx nl ln ns rest o H Q from rfl] at q
      walk_at "s"
      rename_i s sd fs fsd ns1
      refine u_RenoI (dx := sd) (mss := 1) (by decide) (by decide) ?_ ?_
      · walk_at "look"
      intro H1 e1 h1
      have R : Rs K [p, s] H1 H1 p dx nl ln ns t _ := ⟨kp_refl, by walk_at "look", by walk_at "look", hd⟩
      have A : Rap [p, s] p s nl := ⟨mem0, mem1, n1, by walk_at "ne", by walk_at "ne"⟩
      have h1 : H1 s = some (.ins (He.ga K "Reno") sd (RReno.fs ⟨.int (10 * 1), .int 1073741824, .int 0, .int 0, .int 0, .int 0⟩)) := h1
      have c0 := W.c_Reno
      have c1 := W.n_Reno_cwnd
      have c2 := W.n_Reno_thresh
      have c3 := W.n_Reno_peak
      have c4 := W.n_Reno_prior
      have c5 := W.n_Reno_calm
      have c6 := W.n_Reno_credit
      walk_at "s"
      refine c_isi (b := true) (tyo W (.inl rfl) (by assumption)) W.is_Reno_Reno ?_
      walk_at "s"
      rename_i t7 H7 R7 h7 k7
      refine q s sd t7 H7 (by walk_at "fresh") (kp_fin (fun b o h => by walk_at "look") R7.kp (by walk_at "fresh")) R7.rd R7.dr ?_
      rw [hc]
      exact h7
    · refine br_t (by rw [OptD.is_cubic, hc]) ?_
      walk_at "s"
      rename_i s sd fs fsd ns1
      refine u_CubicI (dx := sd) (mss := 1) (by decide) (by decide) ?_ ?_
      · walk_at "look"
      intro H1 e1 h1
      have R : Rs K [p, s] H1 H1 p dx nl ln ns t _ := ⟨kp_refl, by walk_at "look", by walk_at "look", hd⟩
      have A : Rap [p, s] p s nl := ⟨mem0, mem1, n1, by walk_at "ne", by walk_at "ne"⟩
      have h1 : H1 s = some (.ins (He.ga K "Cubic") sd (RCubic.fs ⟨.int (10 * 1), .int 1073741824, .int 0, .int 0, .int 0, .non⟩)) := h1
      have c0 := W.c_Cubic
      have c1 := W.n_Cubic_cwnd
      have c2 := W.n_Cubic_thresh
      have c3 := W.n_Cubic_peak
      have c4 := W.n_Cubic_prior
      have c5 := W.n_Cubic_calm
      walk_at "s"
      refine c_isi (b := false) (tyo W (.inr (.inl rfl)) (by assumption)) W.is_Cubic_Reno ?_
      walk_at "s"
      rename_i t7 H7 R7 h7 k7
      have rd7 : RdA K H7 p dx nl ln t7 := R7.rd
      refine ⟨p, dx, _, rfl, rd7, by kernel_rfl, c_nil (u_Flag0 rd7 R7.nl n1 R7.dr ?_)⟩
      intro t6 H6 e6 rd6 d6 le6
      walk_at "s"
      refine q s sd t6 H6 (by walk_at "fresh") (kp_fin (fun b o h => by walk_at "look") (fun b o hb hn => e6 _ _ (R7.kp _ _ hb hn) (fun z => hn (by rw [List.mem_singleton.mp z]; exact mem0))) (by walk_at "fresh")) rd6 d6 ?_
      rw [hc]
      exact e6 _ _ h7 (fun z => A.n2 (List.mem_singleton.mp z))
theorem ok_read_control (W : Wld K mg) : GFn P w K mg base "read_control" 5 ["reader", "options"] (spRCtl K) := by
  obtain ⟨fd, F1, F⟩ := fo_read_control (P := P) (w := w) (base := base) W
  exact ⟨⟨_, fd, F1, W.g_read_control, F.kp, F.bindsN fun _ _ _ _ _ _ us hl => match us, hl with | [_, _], _ => rfl⟩⟩
theorem u_RCtl {p dx nl oa od : Addr} {ln : Int} {t : Nat} {ns rest : List Int} {o : OptD} {H : Hp} {Q : VK} (h1 : RdA K H p dx nl ln t) (h2 : H nl = some (.lst (nis ns))) (n1 : nl ≠ p) (h3 : OAt K H oa od o) (hd : ns.drop t = conN o ++ rest) (q : RRCtl K p dx nl ln ns rest o H Q) : spRCtl K [.ref p, .ref oa] H Q E0 :=
  ⟨p, dx, nl, oa, od, ln, t, ns, rest, o, rfl, h1, h2, n1, h3, by rw [hd]; simp [conN], q⟩
end
end
/-! part D25 -/
section
set_option maxHeartbeats 4000000
open PySem PySem.Spec PyProof.Rows L2 ClX

local macro_rules | `(tactic| walk_at "s1") => `(tactic| first
  | ((with_reducible refine' c_gnum ?a ?b ?c ?d ?e ?k); (case a => rfl); (case b => rfl); (case c => assumption); (case d => assumption); (case e => assumption); intro t9 H9 R9 h9; dsimp only at h9; have k9 := Rs.kp R9)
  | ((with_reducible refine' c_gmay0 ?a ?b ?c ?d ?e ?k); (case a => rfl); (case b => rfl); (case c => assumption); (case d => assumption); (case e => assumption); intro t9 H9 R9 h9; dsimp only at h9; have k9 := Rs.kp R9)
  | ((with_reducible refine' c_gmay1 ?a ?b ?c ?d ?e ?k); (case a => rfl); (case b => rfl); (case c => assumption); (case d => assumption); (case e => assumption); intro t9 H9 R9 h9; dsimp only at h9; have k9 := Rs.kp R9)
  | ((with_reducible refine' c_gflag _ ?a ?b ?c ?h ?d ?e ?k); (case a => rfl); (case b => rfl); (case c => assumption); (case h => exact Eq.refl (b2i _)); (case d => assumption); (case e => assumption); intro t9 H9 R9 h9; dsimp only at h9; have k9 := Rs.kp R9)
  | ((with_reducible refine' c_gflag false ?a ?b ?c ?h ?d ?e ?k); (case a => rfl); (case b => rfl); (case c => assumption); (case h => rfl); (case d => assumption); (case e => assumption); intro t9 H9 R9 h9; dsimp only at h9; have k9 := Rs.kp R9)
  | ((with_reducible refine' c_gmany _ ?a ?b ?c ?h ?d ?e ?k); (case a => rfl); (case b => rfl); (case c => assumption); (case h => first | assumption | decide); (case d => assumption); (case e => assumption); intro t9 l9 H9 f9 k9 R9 h9 q9; dsimp only at h9)
  | ((with_reducible refine' c_gmany0 ?a ?b ?c ?d ?e ?k); (case a => rfl); (case b => rfl); (case c => assumption); (case d => assumption); (case e => assumption); intro t9 l9 H9 f9 k9 R9 h9 q9; dsimp only at h9)
  | ((with_reducible refine' c_gpairs0 ?a ?b ?c ?d ?e ?k); (case a => rfl); (case b => rfl); (case c => assumption); (case d => assumption); (case e => assumption); intro t9 l9 H9 f9 k9 R9 h9 q9; dsimp only at h9))

section
variable {P : Program} [PrOk P] {w : World} {K : PySem.W.Frag} {mg : Str → Option Value} {base : Heap}
section
variable {S : List Addr} {H1 H : Hp} {p dx nl : Addr} {ln : Int} {ns rest : List Int} {t : Nat}
theorem rs_app {a : Addr} {o : HO} (R : Rs K S H1 H p dx nl ln ns t rest) (h : H1 a = some o) (n : a ∉ S) : H a = some o := R.kp _ _ h n
theorem rs_rd (R : Rs K S H1 H p dx nl ln ns t rest) : H p = some (.ins (He.ga K "CodeReader") dx (RCodeReader.fs (rdR nl ln t))) := R.rd
theorem rs_nl (R : Rs K S H1 H p dx nl ln ns t rest) : H nl = some (.lst (nis ns)) := R.nl
end
local macro_rules | `(tactic| walk_at "look") => `(tactic| first
  | ((with_reducible refine' rs_rd ?k1); (case k1 => (with_reducible assumption)))
  | ((with_reducible refine' rs_nl ?k1); (case k1 => (with_reducible assumption)))
  | fail "no reader")
/-- an endpoint and all that it holds is new -/
structure EA.NewE (A : EA) (H : Hp) : Prop where
  e : H A.e = none
  A : A.New H
def RREnd (K : PySem.W.Frag) (p dx nl : Addr) (ln : Int) (ns rest : List Int) (oa : Addr) (o : OptD) (d : EndD) (H : Hp) (Q : VK) : Prop := ∀ A (t : Nat) H', A.NewE H → Kp [p] H H' → RdA K H' p dx nl ln t → ns.drop t = rest → EndOK K H' oa o A d → Q (.ref A.e) H'
def spREnd (K : PySem.W.Frag) : Sp := fun vs H Q _ => ∃ (p dx nl oa od : Addr) (ln : Int) (t : Nat) (ns rest : List Int) (o : OptD) (d : EndD) (z : Int), vs = [.ref p, .ref oa] ∧ RdA K H p dx nl ln t ∧ H nl = some (.lst (nis ns)) ∧ nl ≠ p ∧ OAt K H oa od o ∧ o.Ok ∧
  ns.drop t = endN o d ++ rest ∧ d.alarm = .int z ∧ d.octs.length ≤ 1000 ∧ RREnd K p dx nl ln ns rest oa o d H Q
/-- what stands behind the phase -/
def tailN (o : OptD) (d : EndD) (z : Int) (rest : List Int) : List Int := o.mss :: 0 :: (senN d ++ (recN o ++ (triN o ++ (conN o ++ (1 :: z :: d.since :: 0 :: 0 :: 0 :: 0 :: 0 :: 0 :: 0 :: d.at_ :: 0 :: 0 :: 0 :: 0 :: rest)))))
theorem oa_ne {oa od p dx nl : Addr} {ln : Int} {t : Nat} {o : OptD} {H : Hp} (h : OAt K H oa od o) (r : RdA K H p dx nl ln t) : oa ≠ p := fun e => by
  have h : H oa = some (.ins (He.ga K "Options") od (ROptions.fs o.r)) := h
  have r : H p = some (.ins (He.ga K "CodeReader") dx (RCodeReader.fs (rdR nl ln t))) := r
  rw [e, r] at h
  have h2 := congrArg (fun q : Option HO => match q with | some (.ins _ _ fs) => fs.length | _ => 0) h
  have h3 : (3 : Nat) = 11 := h2
  exact absurd h3 (by decide)
theorem c_subput {p s dx nl C sdx : Addr} {ln : Int} {t : Nat} {ns rest : List Int} {D : Ends} {σ : L2.St} {H G : Hp} {R : Type} {fs : R → List (Str × V)} {set : V → R → R} {r : R} {v : V} {j : Nat} (hj : σ[j]? = some (some (.ref s))) (e : Kp [p] H G) (rd : RdA K G p dx nl ln t) (hn : H nl = some (.lst (nis ns))) (dr : ns.drop t = rest) (hs : H s = some (.ins C sdx (fs r))) (A : Rap [p, s] p s nl)
    (k : ∀ J, Rs K [p, s] J J p dx nl ln ns t rest → Kp [p, s] H J → (∀ b u, b ≠ s → G b = some u → J b = some u) → J s = some (.ins C sdx (fs (set v r))) → D.nx σ J) :
    tVar j σ G fun x H2 => ∃ a dx r, x = .ref a ∧ H2 a = some (.ins C dx (fs r)) ∧ D.nx σ (upd H2 a (.ins C dx (fs (set v r)))) := by
  refine c_var hj ⟨s, sdx, r, rfl, e _ _ hs (fun z => A.n2 (List.mem_singleton.mp z)), ?_⟩
  exact k _ (Rs.put ⟨kp_refl, rd, e _ _ hn (fun z => A.n1 (List.mem_singleton.mp z)), dr⟩ A).re (fun b u hb hm => upd_app (e _ _ hb (fun z => hm (by rw [List.mem_singleton.mp z]; exact mem0))) (fun z => hm (by rw [z]; exact mem1))) (fun b u n h => upd_app h n) upd_same
theorem c_phase {p s dx nl ed : Addr} {ln : Int} {t : Nat} {ns rest : List Int} {REST : TS} {D : Ends} {σ : L2.St} {H1 H : Hp} {d : EndD} {r : REndpoint} (W : Wld K mg) (hi : σ[0]? = some (some (.ref p))) (hj : σ[2]? = some (some (.ref s))) (R : Rs K [p, s] H1 H p dx nl ln ns t (d.phN ++ rest))
    (h : H s = some (.ins (He.ga K "Endpoint") ed (REndpoint.fs r))) (hr : r.cause = .non) (A : Rap [p, s] p s nl) (k : ∀ t' H', Rs K [p, s] H1 H' p dx nl ln ns t' rest → H' s = some (.ins (He.ga K "Endpoint") ed (REndpoint.fs { r with phase := .str d.ph, cause := d.cau })) → REST D σ H') :
    tSeq (sPut (He.ga K "Endpoint") REndpoint.fs (fun y r => { r with phase := y }) (tVar 2) (tMeth (He.ga K "CodeReader") "choice" (spChoice K) [] E0 (tVar 0) (tCons (tC (.ref (He.ga K "PHASES"))) tNil)))
      (tSeq (tIfS (tTest (tOp rEq (tGet (He.ga K "Endpoint") REndpoint.fs REndpoint.phase (tVar 2)) (tC (.str "ended")))) (sPut (He.ga K "Endpoint") REndpoint.fs (fun y r => { r with cause := y }) (tVar 2) (tMeth (He.ga K "CodeReader") "choice" (spChoice K) [] E0 (tVar 0) (tCons (tC (.ref (He.ga K "CAUSES"))) tNil))) tNext) REST) D σ H := by
  have tP := W.t_PHASES
  have tC := W.t_CAUSES
  obtain ⟨r1, r2, r3, r4, r5, r6, r7, r8, r9, r10, r11, r12, r13, r14, r15, r16, r17, r18, r19, r20, r21, r22, r23⟩ := r
  have hr : r7 = .non := hr
  subst hr
  refine c_seq ?_
  cases hb : d.ab
  · have hp : d.phN = [0] := by rw [EndD.phN, hb]; rfl
    rw [hp] at R
    refine c_gchoice 0 _ _ hi hj R rfl tP rfl h A ?_
    intro t2 H2 R2 h2
    dsimp only at h2
    refine c_seq (c_if (c_test (c_op (c_get (c_var hj (c_getl h2 (c_c (c_rEq rfl (c_bl ?_)))))))))
    refine br_f (show decide (V.str "syn sent" = V.str "ended") = false by decide +kernel) ?_
    refine k t2 H2 R2 ?_
    rw [EndD.ph, EndD.cau, hb]
    exact h2
  · have hp : d.phN = [9, 5] := by rw [EndD.phN, hb]; rfl
    rw [hp] at R
    refine c_gchoice 9 _ _ hi hj R rfl tP rfl h A ?_
    intro t2 H2 R2 h2
    dsimp only at h2
    refine c_seq (c_if (c_test (c_op (c_get (c_var hj (c_getl h2 (c_c (c_rEq rfl (c_bl ?_)))))))))
    refine br_t (show decide (V.str "ended" = V.str "ended") = true by decide +kernel) ?_
    refine c_gchoice 5 _ _ hi hj R2 rfl tC rfl h2 A ?_
    intro t3 H3 R3 h3
    dsimp only at h3
    refine k t3 H3 R3 ?_
    rw [EndD.ph, EndD.cau, hb]
    exact h3
abbrev N_read_endpoint : List Str := ["reader", "options", "end"]
theorem sc_read_endpoint : FnScope N_read_endpoint ["reader", "options"] (defScope s_read_endpoint) := ⟨rfl, rfl, rfl, by decide +kernel, rfl, by decide +kernel, by decide +kernel⟩
theorem fo_read_endpoint (W : Wld K mg) : ∃ fd, FnOk P w K mg base CX0 8 (pl_read_endpoint.ad K) fd ["reader", "options"] (spREnd K) ∧ FunD K "read_endpoint" "read_endpoint" (defArgs s_read_endpoint) (defBody s_read_endpoint) (defScope s_read_endpoint) [] [] (pl_read_endpoint.ad K) fd := by
  obtain ⟨fd, F⟩ := W.d_read_endpoint
  refine ⟨fd, F.ok sc_read_endpoint (fun vs H Q E h => ?_) (fun cdv A outer s H vs Q E hr h => ?_), F⟩
  · obtain ⟨p, dx, nl, oa, od, ln, t, ns, rest, o, d, z, rfl, z1, z2, n1, zo, ok, hd, ha, l1, q⟩ := h; rfl
  · obtain ⟨p, dx, nl, oa, od, ln, t, ns, rest, o, d, z, rfl, z1, z2, n1, zo, ok, hd, ha, l1, q⟩ := h
    have hu := hu_of hr
    refine ⟨_, PSs.nox (pss_cons (ps_set (i := 2) sc_read_endpoint.nd rfl (Or.inl rfl) (pe_mk (ok_Endpoint_make (P := P) (K := K) W) (hr.mono (by decide)) (by rfl) (pa_cons (pv 1) (pa_cons pe_int pa_nil))))
      (pss_cons (ps_put W.c_Endpoint W.n_Endpoint_phase REndpoint.p_phase REndpoint.len (pv 2) (pe_mt (ok_CodeReader_choice (P := P) (K := K) W) (hr.mono (by decide)) (pv 0) (pa_cons (pe_gref rfl W.g_PHASES) pa_nil)))
      (pss_cons (ps_if (pt_cmpR op_eq (pe_get W.c_Endpoint W.n_Endpoint_phase REndpoint.l_phase (pv 2)) pe_str (nomark _)) (pss_one (ps_put W.c_Endpoint W.n_Endpoint_cause REndpoint.p_cause REndpoint.len (pv 2) (pe_mt (ok_CodeReader_choice (P := P) (K := K) W) (hr.mono (by decide)) (pv 0) (pa_cons (pe_gref rfl W.g_CAUSES) pa_nil)))) pss_nil)
      (pss_cons (ps_put W.c_Endpoint W.n_Endpoint_mss REndpoint.p_mss REndpoint.len (pv 2) (pe_mt0 (ok_CodeReader_number (P := P) (K := K) W) (hr.mono (by decide)) (pv 0)))
      (pss_cons (ps_put W.c_Endpoint W.n_Endpoint_selective REndpoint.p_selective REndpoint.len (pv 2) (pe_mt0 (ok_CodeReader_flag (P := P) (K := K) W) (hr.mono (by decide)) (pv 0)))
      (pss_cons (ps_put W.c_Endpoint W.n_Endpoint_sender REndpoint.p_sender REndpoint.len (pv 2) (pe_fn (ok_read_sender (P := P) (K := K) W) (hr.mono (by decide)) (by rfl) (pa_cons (pv 0) (pa_cons (pe_get W.c_Options W.n_Options_room ROptions.l_room (pv 1)) pa_nil))))
      (pss_cons (ps_put W.c_Endpoint W.n_Endpoint_receiver REndpoint.p_receiver REndpoint.len (pv 2) (pe_fn (ok_read_receiver (P := P) (K := K) W) (hr.mono (by decide)) (by rfl) (pa_cons (pv 0) (pa_cons (pe_get W.c_Options W.n_Options_room ROptions.l_room (pv 1)) pa_nil))))
      (pss_cons (ps_put W.c_Endpoint W.n_Endpoint_trip REndpoint.p_trip REndpoint.len (pv 2) (pe_fn (ok_read_trip (P := P) (K := K) W) (hr.mono (by decide)) (by rfl) (pa_cons (pv 0) (pa_cons (pv 1) pa_nil))))
      (pss_cons (ps_put W.c_Endpoint W.n_Endpoint_control REndpoint.p_control REndpoint.len (pv 2) (pe_fn (ok_read_control (P := P) (K := K) W) (hr.mono (by decide)) (by rfl) (pa_cons (pv 0) (pa_cons (pv 1) pa_nil))))
      (pss_cons (ps_put W.c_Endpoint W.n_Endpoint_alarm REndpoint.p_alarm REndpoint.len (pv 2) (pe_mt0 (ok_CodeReader_maybe (P := P) (K := K) W) (hr.mono (by decide)) (pv 0)))
      (pss_cons (ps_put W.c_Endpoint W.n_Endpoint_since REndpoint.p_since REndpoint.len (pv 2) (pe_mt0 (ok_CodeReader_number (P := P) (K := K) W) (hr.mono (by decide)) (pv 0)))
      (pss_cons (ps_put W.c_Endpoint W.n_Endpoint_ack_at REndpoint.p_ack_at REndpoint.len (pv 2) (pe_mt0 (ok_CodeReader_maybe (P := P) (K := K) W) (hr.mono (by decide)) (pv 0)))
      (pss_cons (ps_put W.c_Endpoint W.n_Endpoint_late REndpoint.p_late REndpoint.len (pv 2) (pe_mt0 (ok_CodeReader_number (P := P) (K := K) W) (hr.mono (by decide)) (pv 0)))
      (pss_cons (ps_put W.c_Endpoint W.n_Endpoint_asked REndpoint.p_asked REndpoint.len (pv 2) (pe_mt0 (ok_CodeReader_flag (P := P) (K := K) W) (hr.mono (by decide)) (pv 0)))
      (pss_cons (ps_put W.c_Endpoint W.n_Endpoint_again REndpoint.p_again REndpoint.len (pv 2) (pe_mt0 (ok_CodeReader_flag (P := P) (K := K) W) (hr.mono (by decide)) (pv 0)))
      (pss_cons (ps_put W.c_Endpoint W.n_Endpoint_probe REndpoint.p_probe REndpoint.len (pv 2) (pe_mt0 (ok_CodeReader_flag (P := P) (K := K) W) (hr.mono (by decide)) (pv 0)))
      (pss_cons (ps_put W.c_Endpoint W.n_Endpoint_over REndpoint.p_over REndpoint.len (pv 2) (pe_mt0 (ok_CodeReader_flag (P := P) (K := K) W) (hr.mono (by decide)) (pv 0)))
      (pss_cons (ps_put W.c_Endpoint W.n_Endpoint_rest REndpoint.p_rest REndpoint.len (pv 2) (pe_mt0 (ok_CodeReader_number (P := P) (K := K) W) (hr.mono (by decide)) (pv 0)))
      (pss_cons (ps_put W.c_Endpoint W.n_Endpoint_spent_at REndpoint.p_spent_at REndpoint.len (pv 2) (pe_mt0 (ok_CodeReader_number (P := P) (K := K) W) (hr.mono (by decide)) (pv 0)))
      (pss_cons (ps_put W.c_Endpoint W.n_Endpoint_spent REndpoint.p_spent REndpoint.len (pv 2) (pe_mt0 (ok_CodeReader_number (P := P) (K := K) W) (hr.mono (by decide)) (pv 0)))
      (pss_cons (ps_put W.c_Endpoint W.n_Endpoint_stamp REndpoint.p_stamp REndpoint.len (pv 2) (pe_mt0 (ok_CodeReader_number (P := P) (K := K) W) (hr.mono (by decide)) (pv 0)))
      (pss_cons (ps_put W.c_Endpoint W.n_Endpoint_marked REndpoint.p_marked REndpoint.len (pv 2) (pe_mt0 (ok_CodeReader_flag (P := P) (K := K) W) (hr.mono (by decide)) (pv 0)))
      (pss_cons (ps_put W.c_Endpoint W.n_Endpoint_cut REndpoint.p_cut REndpoint.len (pv 2) (pe_mt0 (ok_CodeReader_flag (P := P) (K := K) W) (hr.mono (by decide)) (pv 0)))
      (pss_one (ps_ret (pv 2)))))))))))))))))))))))))), ?_⟩
    have no := oa_ne zo z1
    obtain ⟨m1, m2, r1, r2, _, _, _, _, _, _, _, _, _, _, _, _, _⟩ := ok
    walk_at "s"
    rename_i e ed fe fed ns1
    refine u_EndI (od := od) (o := o) (by walk_at "look") (by walk_at "ne") (by walk_at "look") (by omega) (by omega) ?_
    intro A0 H1 eA nA apA e1 hE
    subst eA
    obtain ⟨y1, y2, y3, y4, y5, y6, y7, y8, y9⟩ := hE
    have A : Rap [p, A0.e] p A0.e nl := ⟨mem0, mem1, n1, by walk_at "ne", by walk_at "ne"⟩
    have h1 : H1 A0.e = some (.ins (He.ga K "Endpoint") A0.ed (REndpoint.fs ⟨.ref oa, .ref A0.s, .ref A0.r, .ref A0.t, .ref A0.c, .str "syn sent", .non, .int o.mss, .bl false, .non, .int 0, .non, .int 0, .bl false, .bl false, .bl false, .bl false, .int 0, .int 0, .int 0, .int 0, .bl false, .bl false⟩)) := y1
    clear y1 y2 y3 y4 y5 y6 y7 y8 y9 nA apA
    have zo1 : OAt K H1 oa od o := by walk_at "look"
    have ee1 : ∀ b u, H b = some u → H1 b = some u := fun b u h => by walk_at "look"
    have noe : oa ≠ A0.e := by walk_at "ne"
    have hd2 : ns.drop t = d.phN ++ tailN o d z rest := by rw [hd]; simp [endN, tailN, ha, mayN]
    have R : Rs K [p, A0.e] H1 H1 p dx nl ln ns t _ := ⟨kp_refl, by walk_at "look", by walk_at "look", hd2⟩
    walk_at "s1"
    refine c_phase W rfl rfl R h1 rfl A ?_
    intro t2 H2 R2 h2
    dsimp only at h2
    have k2 := R2.kp
    walk_at "s"
    rename_i tp0 Hp0 Rp0 hp0 kp0
    refine u_RSend (o := o) (d := d) Rp0.rd Rp0.nl n1 Rp0.dr (by omega) ?_
    intro s2 sd2 q2 c2 t0 G0 fs2 fq2 fc2 e0 rd0 dr0 hs2 hq2 hc2
    show tVar _ _ _ _
    refine c_subput (fs := REndpoint.fs) (set := fun y r => { r with sender := y }) (v := .ref s2) (j := 2) rfl e0 rd0 Rp0.nl dr0 hp0 A ?_
    intro Hp1 Rp1 kp1 up0 hp1
    dsimp only at hp1
    have ns2 : s2 ≠ A0.e := (ne_of_none hp0 fs2).symm
    have ms2 : s2 ≠ p := (ne_of_none Rp0.rd fs2).symm
    have Js2 := up0 _ _ ns2 hs2
    have nq2 : q2 ≠ A0.e := (ne_of_none hp0 fq2).symm
    have mq2 : q2 ≠ p := (ne_of_none Rp0.rd fq2).symm
    have Jq2 := up0 _ _ nq2 hq2
    have nc2 : c2 ≠ A0.e := (ne_of_none hp0 fc2).symm
    have mc2 : c2 ≠ p := (ne_of_none Rp0.rd fc2).symm
    have Jc2 := up0 _ _ nc2 hc2
    walk_at "s"
    refine u_RRecv (o := o) Rp1.rd Rp1.nl n1 Rp1.dr ?_
    intro s3 sd3 y3 h3 t1 G1 fs3 fy3 fh3 e1 rd1 dr1 hs3 hy3 hh3
    show tVar _ _ _ _
    refine c_subput (fs := REndpoint.fs) (set := fun y r => { r with receiver := y }) (v := .ref s3) (j := 2) rfl e1 rd1 Rp1.nl dr1 hp1 A ?_
    intro Hp2 Rp2 kp2 up1 hp2
    dsimp only at hp2
    have ns3 : s3 ≠ A0.e := (ne_of_none hp1 fs3).symm
    have ms3 : s3 ≠ p := (ne_of_none Rp1.rd fs3).symm
    have Js3 := up1 _ _ ns3 hs3
    have ny3 : y3 ≠ A0.e := (ne_of_none hp1 fy3).symm
    have my3 : y3 ≠ p := (ne_of_none Rp1.rd fy3).symm
    have Jy3 := up1 _ _ ny3 hy3
    have nh3 : h3 ≠ A0.e := (ne_of_none hp1 fh3).symm
    have mh3 : h3 ≠ p := (ne_of_none Rp1.rd fh3).symm
    have Jh3 := up1 _ _ nh3 hh3
    walk_at "s"
    refine u_RTrip (o := o) (od := od) Rp2.rd Rp2.nl n1 (by walk_at "look") Rp2.dr ?_
    intro s4 sd4 t2 G2 fs4 e2 rd2 dr2 hs4
    show tVar _ _ _ _
    refine c_subput (fs := REndpoint.fs) (set := fun y r => { r with trip := y }) (v := .ref s4) (j := 2) rfl e2 rd2 Rp2.nl dr2 hp2 A ?_
    intro Hp3 Rp3 kp3 up2 hp3
    dsimp only at hp3
    have ns4 : s4 ≠ A0.e := (ne_of_none hp2 fs4).symm
    have ms4 : s4 ≠ p := (ne_of_none Rp2.rd fs4).symm
    have Js4 := up2 _ _ ns4 hs4
    walk_at "s"
    refine u_RCtl (o := o) (od := od) Rp3.rd Rp3.nl n1 (by walk_at "look") Rp3.dr ?_
    intro s5 sd5 t3 G3 fs5 e3 rd3 dr3 hs5
    show tVar _ _ _ _
    refine c_subput (fs := REndpoint.fs) (set := fun y r => { r with control := y }) (v := .ref s5) (j := 2) rfl e3 rd3 Rp3.nl dr3 hp3 A ?_
    intro Hp4 Rp4 kp4 up3 hp4
    dsimp only at hp4
    have ns5 : s5 ≠ A0.e := (ne_of_none hp3 fs5).symm
    have ms5 : s5 ≠ p := (ne_of_none Rp3.rd fs5).symm
    have Js5 := up3 _ _ ns5 hs5
    walk_at "s"
    rename_i t9 H9 R9 h9 k9
    have zs2 : s2 ∉ [p, A0.e] := not_cons ms2 (not_cons ns2 (not_nil _))
    have Ls2 := (k9 _ _ (kp4 _ _ (kp3 _ _ (kp2 _ _ Js2 zs2) zs2) zs2) zs2)
    have zq2 : q2 ∉ [p, A0.e] := not_cons mq2 (not_cons nq2 (not_nil _))
    have Lq2 := (k9 _ _ (kp4 _ _ (kp3 _ _ (kp2 _ _ Jq2 zq2) zq2) zq2) zq2)
    have zc2 : c2 ∉ [p, A0.e] := not_cons mc2 (not_cons nc2 (not_nil _))
    have Lc2 := (k9 _ _ (kp4 _ _ (kp3 _ _ (kp2 _ _ Jc2 zc2) zc2) zc2) zc2)
    have zs3 : s3 ∉ [p, A0.e] := not_cons ms3 (not_cons ns3 (not_nil _))
    have Ls3 := (k9 _ _ (kp4 _ _ (kp3 _ _ Js3 zs3) zs3) zs3)
    have zy3 : y3 ∉ [p, A0.e] := not_cons my3 (not_cons ny3 (not_nil _))
    have Ly3 := (k9 _ _ (kp4 _ _ (kp3 _ _ Jy3 zy3) zy3) zy3)
    have zh3 : h3 ∉ [p, A0.e] := not_cons mh3 (not_cons nh3 (not_nil _))
    have Lh3 := (k9 _ _ (kp4 _ _ (kp3 _ _ Jh3 zh3) zh3) zh3)
    have zs4 : s4 ∉ [p, A0.e] := not_cons ms4 (not_cons ns4 (not_nil _))
    have Ls4 := (k9 _ _ (kp4 _ _ Js4 zs4) zs4)
    have zs5 : s5 ∉ [p, A0.e] := not_cons ms5 (not_cons ns5 (not_nil _))
    have Ls5 := (k9 _ _ Js5 zs5)
    have kq1 := kp_trans kp0 kp1
    have kq2 := kp_trans kq1 kp2
    have kq3 := kp_trans kq2 kp3
    have kq4 := kp_trans kq3 kp4
    have kq9 := kp_trans kq4 k9
    have gs2 : H s2 = none := fresh_of (Rp0.fresh hp0 fs2) (ee1 _)
    have gq2 : H q2 = none := fresh_of (Rp0.fresh hp0 fq2) (ee1 _)
    have gc2 : H c2 = none := fresh_of (Rp0.fresh hp0 fc2) (ee1 _)
    have gs3 : H s3 = none := fresh_of ((Rs.mk kq1 Rp1.rd Rp1.nl Rp1.dr).fresh hp1 fs3) (ee1 _)
    have gy3 : H y3 = none := fresh_of ((Rs.mk kq1 Rp1.rd Rp1.nl Rp1.dr).fresh hp1 fy3) (ee1 _)
    have gh3 : H h3 = none := fresh_of ((Rs.mk kq1 Rp1.rd Rp1.nl Rp1.dr).fresh hp1 fh3) (ee1 _)
    have gs4 : H s4 = none := fresh_of ((Rs.mk kq2 Rp2.rd Rp2.nl Rp2.dr).fresh hp2 fs4) (ee1 _)
    have gs5 : H s5 = none := fresh_of ((Rs.mk kq3 Rp3.rd Rp3.nl Rp3.dr).fresh hp3 fs5) (ee1 _)
    rw [← ha] at h9
    exact q ⟨A0.e, A0.ed, s2, sd2, s3, sd3, s4, sd4, s5, sd5, q2, c2, y3, h3⟩ t9 H9 ⟨fe, ⟨gs2, gs3, gs4, gs5, gq2, gc2, gy3, gh3⟩⟩ (kp_fin ee1 kq9 fe) R9.rd R9.dr ⟨h9, Ls2, Ls3, Ls4, Ls5, Lq2, Lc2, Ly3, Lh3⟩
theorem ok_read_endpoint (W : Wld K mg) : GFn P w K mg base "read_endpoint" 8 ["reader", "options"] (spREnd K) := by
  obtain ⟨fd, F1, F⟩ := fo_read_endpoint (P := P) (w := w) (base := base) W
  exact ⟨⟨_, fd, F1, W.g_read_endpoint, F.kp, F.bindsN fun _ _ _ _ _ _ us hl => match us, hl with | [_, _], _ => rfl⟩⟩
theorem u_REnd {p dx nl oa od : Addr} {ln : Int} {t : Nat} {ns rest : List Int} {o : OptD} {d : EndD} {z : Int} {H : Hp} {Q : VK} (h1 : RdA K H p dx nl ln t) (h2 : H nl = some (.lst (nis ns))) (n1 : nl ≠ p) (h3 : OAt K H oa od o) (ok : o.Ok) (hd : ns.drop t = endN o d ++ rest) (ha : d.alarm = .int z) (l : d.octs.length ≤ 1000) (q : RREnd K p dx nl ln ns rest oa o d H Q) : spREnd K [.ref p, .ref oa] H Q E0 :=
  ⟨p, dx, nl, oa, od, ln, t, ns, rest, o, d, z, rfl, h1, h2, n1, h3, ok, hd, ha, l, q⟩
end
end
/-! part D26 -/
section
set_option maxHeartbeats 4000000
open PySem PySem.Spec PyProof.Rows L2 ClX

section
variable {P : Program} [PrOk P] {w : World} {K : PySem.W.Frag} {mg : Str → Option Value} {base : Heap}
section
variable {σ : L2.St} {H : Hp} {te : TE} {p dx nl : Addr} {ln : Int} {ns rest : List Int} {t : Nat}
/-- a comprehension over a range, each turn reads the next item: its code, its value -/
theorem c_lcItems {m j : Nat} {vs : List Nat} {Dl : Addr} {Qd : Hp → Prop} (cs : List (List Int × V)) (hm : m = cs.length) (hc : cs.length ≤ 1000) (rd : RdA K H p dx nl ln t) (hn : H nl = some (.lst (nis ns))) (n1 : nl ≠ p) (dr : ns.drop t = (cs.map (·.1)).flatten ++ rest) (fD : H Dl = none)
    (hw : ∀ x, wipe ((wipe σ vs).set j (some x)) vs = wipe σ vs)
    (he : ∀ (i : Nat) c v r t' H', cs[i]? = some (c, v) → RdA K H' p dx nl ln t' → H' nl = some (.lst (nis ns)) → ns.drop t' = c ++ r → ∀ Q' : VK, RRd K p dx nl ln ns r v H' Q' → te ((wipe σ vs).set j (some (.int i))) H' Q')
    (k : ∀ t' H', Kp [p] H H' → RdA K H' p dx nl ln t' → ns.drop t' = rest → H' Dl = some (.lst (cs.map (·.2))) → Qd H') :
    ∃ W : Nat → Nat → Hp → Prop, (∃ m, W 0 m (upd H Dl (.lst []))) ∧ ∀ i m' H, W i m' H →
      ((Itr 0 m).stop i H ∧ Qd H) ∨ ((Itr 0 m).go i H ∧ ∃ Nx : Hp → Prop, (∀ H', Nx H' → ∃ m2, m2 < m' ∧ W (i + 1) m2 H') ∧ ∀ x H', (Itr 0 m).yld i H x H' → gName j x (wipe σ vs) H' fun σ2 H2 => wipe σ2 vs = wipe σ vs ∧ tYes σ2 H2 fun b H3 =>
        if b = true then te σ2 H3 fun y H4 => ∃ acc, H4 Dl = some (.lst acc) ∧ acc.length < sizeLine ∧ Nx (upd H4 Dl (.lst (acc ++ [y]))) else Nx H3) := by
  have nD : p ≠ Dl := ne_of_none rd fD
  have nD2 : nl ≠ Dl := ne_of_none hn fD
  refine c_lcR (n := cs.length) hm (by omega) (fun i ys H' => ys = (cs.take i).map (·.2) ∧ (∀ b o, H b = some o → b ≠ p → H' b = some o) ∧ ∃ t, RdA K H' p dx nl ln t ∧ ns.drop t = ((cs.drop i).map (·.1)).flatten ++ rest) ?_ hw ?_ ?_
  · exact ⟨rfl, fun b o hb _ => upd_app hb (ne_of_none hb fD), t, upd_app rd nD, dr⟩
  · rintro i ys H' hi ⟨rfl, e2, t2, r2, d2⟩ hD hl2
    have hg : cs[i]? = some (cs[i].1, cs[i].2) := List.getElem?_eq_getElem hi
    rw [List.drop_eq_getElem_cons hi, List.map_cons, List.flatten_cons, List.append_assoc] at d2
    refine he i _ _ _ t2 H' hg r2 (e2 _ _ hn n1) d2 _ ?_
    intro t3 H3 e3 h3 d3 l3
    refine LcE.mk (by omega) (e3 _ _ hD (by simpa using nD.symm)) hl2 ⟨?_, ?_, t3, upd_app h3 nD, d3⟩
    · rw [List.take_add_one, List.getElem?_eq_getElem hi, List.map_append]
      rfl
    · intro b o hb hn
      exact upd_app (e3 _ _ (e2 b o hb hn) (by simpa using hn)) (ne_of_none hb fD)
  · rintro ys H' ⟨rfl, e2, t2, r2, d2⟩ hD hl2
    rw [List.take_length] at hD
    rw [List.drop_length] at d2
    exact k t2 H' (fun b o hb hn => e2 b o hb (by simpa using hn)) r2 d2 hD
theorem flat1 (els : List Int) : ((els.map fun n => (([n] : List Int), V.int n)).map (·.1)).flatten = els := by
  induction els with
  | nil => rfl
  | cons a l ih => simp only [List.map_cons, List.flatten_cons, ih]; rfl
theorem c_lcNums {m ri j : Nat} {vs : List Nat} {Dl : Addr} {Qd : Hp → Prop} (els : List Int) (hm : m = els.length) (hc : els.length ≤ 1000) (rd : RdA K H p dx nl ln t) (hn : H nl = some (.lst (nis ns))) (n1 : nl ≠ p) (dr : ns.drop t = els ++ rest) (fD : H Dl = none)
    (hw : ∀ x, wipe ((wipe σ vs).set j (some x)) vs = wipe σ vs) (hi : ∀ x, ((wipe σ vs).set j (some x))[ri]? = some (some (.ref p)))
    (k : ∀ t' H', Kp [p] H H' → RdA K H' p dx nl ln t' → ns.drop t' = rest → H' Dl = some (.lst (nis els)) → Qd H') :
    ∃ W : Nat → Nat → Hp → Prop, (∃ m, W 0 m (upd H Dl (.lst []))) ∧ ∀ i m' H, W i m' H →
      ((Itr 0 m).stop i H ∧ Qd H) ∨ ((Itr 0 m).go i H ∧ ∃ Nx : Hp → Prop, (∀ H', Nx H' → ∃ m2, m2 < m' ∧ W (i + 1) m2 H') ∧ ∀ x H', (Itr 0 m).yld i H x H' → gName j x (wipe σ vs) H' fun σ2 H2 => wipe σ2 vs = wipe σ vs ∧ tYes σ2 H2 fun b H3 =>
        if b = true then (tMeth (He.ga K "CodeReader") "number" (spNumber K) [] E0 (tVar ri) tNil) σ2 H3 fun y H4 => ∃ acc, H4 Dl = some (.lst acc) ∧ acc.length < sizeLine ∧ Nx (upd H4 Dl (.lst (acc ++ [y]))) else Nx H3) := by
  refine c_lcItems (m := m) (vs := vs) (j := j) (Qd := Qd) (te := tMeth (He.ga K "CodeReader") "number" (spNumber K) [] E0 (tVar ri) tNil) (els.map fun n => ([n], V.int n)) (by rw [List.length_map]; exact hm) (by rw [List.length_map]; exact hc) rd hn n1 (by rw [flat1]; exact dr) fD hw ?_ ?_
  · intro a c v r t' H' ha rd' hn' dr' Q' hq
    rw [List.getElem?_map] at ha
    cases q : els[a]? with
    | none => rw [q] at ha; cases ha
    | some n =>
      rw [q] at ha
      obtain ⟨rfl, rfl⟩ := Prod.mk.inj (Option.some.inj ha)
      exact c_meth (c_var (hi _) ⟨p, dx, _, rfl, rd', by kernel_rfl, c_nil (u_Number rd' hn' n1 dr' hq)⟩)
  · intro t' H' e rd' dr' hD
    rw [List.map_map] at hD
    exact k t' H' e rd' dr' hD
theorem flat0 (m : Nat) : (((List.replicate m (([0] : List Int), V.non))).map (·.1)).flatten = List.replicate m 0 := by
  induction m with
  | zero => rfl
  | succ m ih => simp only [List.replicate_succ, List.map_cons, List.flatten_cons, ih]; rfl
theorem c_lcMay0 {m ri j : Nat} {vs : List Nat} {Dl : Addr} {Qd : Hp → Prop} (hc : m ≤ 1000) (rd : RdA K H p dx nl ln t) (hn : H nl = some (.lst (nis ns))) (n1 : nl ≠ p) (dr : ns.drop t = List.replicate m 0 ++ rest) (fD : H Dl = none)
    (hw : ∀ x, wipe ((wipe σ vs).set j (some x)) vs = wipe σ vs) (hi : ∀ x, ((wipe σ vs).set j (some x))[ri]? = some (some (.ref p)))
    (k : ∀ t' H', Kp [p] H H' → RdA K H' p dx nl ln t' → ns.drop t' = rest → H' Dl = some (.lst (List.replicate m .non)) → Qd H') :
    ∃ W : Nat → Nat → Hp → Prop, (∃ m, W 0 m (upd H Dl (.lst []))) ∧ ∀ i m' H, W i m' H →
      ((Itr 0 m).stop i H ∧ Qd H) ∨ ((Itr 0 m).go i H ∧ ∃ Nx : Hp → Prop, (∀ H', Nx H' → ∃ m2, m2 < m' ∧ W (i + 1) m2 H') ∧ ∀ x H', (Itr 0 m).yld i H x H' → gName j x (wipe σ vs) H' fun σ2 H2 => wipe σ2 vs = wipe σ vs ∧ tYes σ2 H2 fun b H3 =>
        if b = true then (tMeth (He.ga K "CodeReader") "maybe" (spMaybe K) [] E0 (tVar ri) tNil) σ2 H3 fun y H4 => ∃ acc, H4 Dl = some (.lst acc) ∧ acc.length < sizeLine ∧ Nx (upd H4 Dl (.lst (acc ++ [y]))) else Nx H3) := by
  refine c_lcItems (m := m) (vs := vs) (j := j) (Qd := Qd) (te := tMeth (He.ga K "CodeReader") "maybe" (spMaybe K) [] E0 (tVar ri) tNil) (List.replicate m ([0], V.non)) (by simp) (by simpa using hc) rd hn n1 (by rw [flat0]; exact dr) fD hw ?_ ?_
  · intro a c v r t' H' ha rd' hn' dr' Q' hq
    have hm := List.eq_of_mem_replicate (List.mem_of_getElem? ha)
    obtain ⟨rfl, rfl⟩ := Prod.mk.inj hm
    exact c_meth (c_var (hi _) ⟨p, dx, _, rfl, rd', by kernel_rfl, c_nil (u_Maybe0 rd' hn' n1 dr' hq)⟩)
  · intro t' H' e rd' dr' hD
    rw [List.map_replicate] at hD
    exact k t' H' e rd' dr' hD
end
local macro_rules | `(tactic| walk_at "s1") => `(tactic| first
  | (show spNumber _ _ _ _ _; refine' u_Number ?k1 ?k2 ?k3 ?k4 ?k5; (case k1 => walk_at "look"); (case k2 => walk_at "look"); (case k3 => assumption); (case k4 => assumption))
  | (show spFlag _ _ _ _ _; refine' u_Flag0 ?k1 ?k2 ?k3 ?k4 ?k5; (case k1 => walk_at "look"); (case k2 => walk_at "look"); (case k3 => assumption); (case k4 => assumption))
  | (show spFinishR _ _ _ _ _; refine' u_FinishR ?k1 ?k2 ?k3 ?k4; (case k1 => walk_at "look"); (case k2 => walk_at "look"); (case k3 => assumption))
  | (show spSocketI _ _ _ _ _; refine' u_SocketI ?k1 ?k2; (case k1 => walk_at "look"))
  | ((with_reducible show RRd _ _ _ _ _ _ _ _ _ _); intro t9 H9 e9 h9 d9 l9))
structure SkA.NewK (x : SkA) (H : Hp) : Prop where
  s : H x.s = none
  A : x.A.NewE H
def RRSck (K : PySem.W.Frag) (p : Addr) (oa : Addr) (o : OptD) (k : SkD) (d : EndD) (H : Hp) (Q : VK) : Prop := ∀ (x : SkA) H', x.NewK H → Kp [p] H H' → KAt K H' x.s x.sd x.A.e k → EndOK K H' oa o x.A d → Q (.ref x.s) H'
def spRSock (K : PySem.W.Frag) : Sp := fun vs H Q _ => ∃ (p dx nl oa od : Addr) (ln : Int) (ns : List Int) (o : OptD) (k : SkD) (d : EndD) (z : Int), vs = [.ref p, .ref oa] ∧ RdA K H p dx nl ln 0 ∧ H nl = some (.lst (nis ns)) ∧ nl ≠ p ∧ OAt K H oa od o ∧ o.Ok ∧
  ns = sockN k o d ∧ d.alarm = .int z ∧ d.octs.length ≤ 1000 ∧ RRSck K p oa o k d H Q
abbrev N_read_socket : List Str := ["reader", "options", "names", "known", "listened", "accepted", "end", "sock", "_"]
theorem sc_read_socket : FnScope N_read_socket ["reader", "options"] (defScope s_read_socket) := ⟨rfl, rfl, rfl, by decide +kernel, rfl, by decide +kernel, by decide +kernel⟩
theorem fo_read_socket (W : Wld K mg) : ∃ fd, FnOk P w K mg base CX0 9 (pl_read_socket.ad K) fd ["reader", "options"] (spRSock K) ∧ FunD K "read_socket" "read_socket" (defArgs s_read_socket) (defBody s_read_socket) (defScope s_read_socket) [] [] (pl_read_socket.ad K) fd := by
  obtain ⟨fd, F⟩ := W.d_read_socket
  refine ⟨fd, F.ok sc_read_socket (fun vs H Q E h => ?_) (fun cdv A outer s H vs Q E hr h => ?_), F⟩
  · obtain ⟨p, dx, nl, oa, od, ln, ns, o, k, d, z, rfl, z1, z2, n1, zo, ok, hd, ha, l1, q⟩ := h; rfl
  · obtain ⟨p, dx, nl, oa, od, ln, ns, o, k, d, z, rfl, z1, z2, n1, zo, ok, hd, ha, l1, q⟩ := h
    have hu := hu_of hr
    refine ⟨_, PSs.nox (pss_cons (ps_setLc (i := 2) (own := [("_", 8)]) (g := gName 8) (tt := tYes) rfl sc_read_socket.nd rfl rfl (sw_true rfl rfl rfl (by decide +kernel)) (pi_range1 rfl W.f_range (pa_cons pe_int pa_nil)) (blkOk_by (own := [("_", 8)]) (N := N_read_socket) (sc := defScope s_read_socket) (by decide +kernel)) (fun _ _ _ _ _ => pg_name (i := 8) sc_read_socket.nd rfl (Or.inl rfl)) (fun _ _ _ _ _ => pts_nil) (fun _ _ _ _ _ => (pe_mt0 (ok_CodeReader_number (P := P) (K := K) W) (hr.mono (by decide)) (pv 0))))
      (pss_cons (ps_setLc (i := 3) (own := [("_", 8)]) (g := gName 8) (tt := tYes) rfl sc_read_socket.nd rfl rfl (sw_true rfl rfl rfl (by decide +kernel)) (pi_range1 rfl W.f_range (pa_cons pe_int pa_nil)) (blkOk_by (own := [("_", 8)]) (N := N_read_socket) (sc := defScope s_read_socket) (by decide +kernel)) (fun _ _ _ _ _ => pg_name (i := 8) sc_read_socket.nd rfl (Or.inl rfl)) (fun _ _ _ _ _ => pts_nil) (fun _ _ _ _ _ => (pe_mt0 (ok_CodeReader_maybe (P := P) (K := K) W) (hr.mono (by decide)) (pv 0))))
      (pss_cons (ps_set (i := 4) sc_read_socket.nd rfl (Or.inl rfl) (pe_mt0 (ok_CodeReader_flag (P := P) (K := K) W) (hr.mono (by decide)) (pv 0)))
      (pss_cons (ps_set (i := 5) sc_read_socket.nd rfl (Or.inl rfl) (pe_mt0 (ok_CodeReader_flag (P := P) (K := K) W) (hr.mono (by decide)) (pv 0)))
      (pss_cons (ps_set (i := 6) sc_read_socket.nd rfl (Or.inl rfl) (pe_fn (ok_read_endpoint (P := P) (K := K) W) (hr.mono (by decide)) (by rfl) (pa_cons (pv 0) (pa_cons (pv 1) pa_nil))))
      (pss_cons (ps_set (i := 7) sc_read_socket.nd rfl (Or.inl rfl) (pe_mkK (ok_Socket_make_k (P := P) (K := K) W) (hr.mono (by decide)) (by rfl) (pa_cons (pe_ix ix_list (pv 2) pe_int (fun _ _ => rfl)) (pa_cons (pe_ix ix_list (pv 2) pe_int (fun _ _ => rfl)) (pa_cons (pe_ix ix_list (pv 2) pe_int (fun _ _ => rfl)) (pa_cons (pe_ix ix_list (pv 2) pe_int (fun _ _ => rfl)) (pa_cons (pv 6) pa_nil))))) (pk_cons (pv 4) pk_nil)))
      (pss_cons (ps_put W.c_Socket W.n_Socket_peer_count RSocket.p_peer_count RSocket.len (pv 7) (pe_ix ix_list (pv 3) pe_int (fun _ _ => rfl)))
      (pss_cons (ps_put W.c_Socket W.n_Socket_peer_first RSocket.p_peer_first RSocket.len (pv 7) (pe_ix ix_list (pv 3) pe_int (fun _ _ => rfl)))
      (pss_cons (ps_put W.c_Socket W.n_Socket_peer_shift RSocket.p_peer_shift RSocket.len (pv 7) (pe_ix ix_list (pv 3) pe_int (fun _ _ => rfl)))
      (pss_cons (ps_put W.c_Socket W.n_Socket_accepted RSocket.p_accepted RSocket.len (pv 7) (pv 5))
      (pss_cons (ps_expr (pe_mt0 (ok_CodeReader_finish (P := P) (K := K) W) (hr.mono (by decide)) (pv 0)))
      (pss_one (ps_ret (pv 7)))))))))))))), ?_⟩
    have no := oa_ne zo z1
    have hd0 : ns.drop 0 = k.cnt :: k.port :: k.peer :: k.pp :: 0 :: 0 :: 0 :: 0 :: 0 :: (endN o d ++ []) := by rw [hd]; simp [sockN]
    walk_at "s"
    rename_i Dl fD
    refine c_lcNums [k.cnt, k.port, k.peer, k.pp] (by rfl) (by show 4 ≤ 1000; decide) z1 z2 n1 hd0 fD ?_ ?_ ?_
    · exact fun _ => rfl
    · exact fun _ => rfl
    intro t2 H2 e2 rd2 dr2 hD2
    walk_at "s"
    rename_i Dm fDm
    refine c_lcMay0 (m := 3) (by decide) rd2 (by walk_at "look") n1 dr2 fDm ?_ ?_ ?_
    · exact fun _ => rfl
    · exact fun _ => rfl
    intro t3 H3 e3 rd3 dr3 hD3
    walk_at "s"
    rename_i t8 H8 e8 h8 d8 l8 t9 H9 e9 h9 d9 l9
    refine u_REnd (od := od) h9 (by walk_at "look") n1 (by walk_at "look") ok d9 ha l1 ?_
    intro A t4 H4 nA e4 rd4 dr4 hE
    obtain ⟨y1, y2, y3, y4, y5, y6, y7, y8, y9⟩ := hE
    obtain ⟨fe, ⟨f1, f2, f3, f4, f5, f6, f7, f8⟩⟩ := nA
    walk_at "s"
    rename_i px sd fpx fsd npx H5 e5 h5
    exact q ⟨px, sd, A⟩ _ ⟨by walk_at "fresh", ⟨by walk_at "fresh", ⟨by walk_at "fresh", by walk_at "fresh", by walk_at "fresh", by walk_at "fresh", by walk_at "fresh", by walk_at "fresh", by walk_at "fresh", by walk_at "fresh"⟩⟩⟩ (by walk_at "kp") (by walk_at "ins") ⟨by walk_at "look", by walk_at "look", by walk_at "look", by walk_at "look", by walk_at "look", by walk_at "look", by walk_at "look", by walk_at "look", by walk_at "look"⟩
theorem ok_read_socket (W : Wld K mg) : GFn P w K mg base "read_socket" 9 ["reader", "options"] (spRSock K) := by
  obtain ⟨fd, F1, F⟩ := fo_read_socket (P := P) (w := w) (base := base) W
  exact ⟨⟨_, fd, F1, W.g_read_socket, F.kp, F.bindsN fun _ _ _ _ _ _ us hl => match us, hl with | [_, _], _ => rfl⟩⟩
theorem u_RSock {p dx nl oa od : Addr} {ln : Int} {ns : List Int} {o : OptD} {k : SkD} {d : EndD} {z : Int} {H : Hp} {Q : VK} (h1 : RdA K H p dx nl ln 0) (h2 : H nl = some (.lst (nis ns))) (n1 : nl ≠ p) (h3 : OAt K H oa od o) (ok : o.Ok) (hd : ns = sockN k o d) (ha : d.alarm = .int z) (l : d.octs.length ≤ 1000) (q : RRSck K p oa o k d H Q) : spRSock K [.ref p, .ref oa] H Q E0 :=
  ⟨p, dx, nl, oa, od, ln, ns, o, k, d, z, rfl, h1, h2, n1, h3, ok, hd, ha, l, q⟩
end
end
/-! part D27 -/
section
set_option maxHeartbeats 4000000
open PySem PySem.Spec PyProof.Rows L2 ClX

section
variable {P : Program} [PrOk P] {w : World} {K : PySem.W.Frag} {mg : Str → Option Value} {base : Heap}
local macro_rules | `(tactic| walk_at "s1") => `(tactic| first
  | (show spNumber _ _ _ _ _; refine' u_Number ?k1 ?k2 ?k3 ?k4 ?k5; (case k1 => walk_at "look"); (case k2 => walk_at "look"); (case k3 => assumption); (case k4 => assumption))
  | (show spFlag _ _ _ _ _; refine' u_Flag0 ?k1 ?k2 ?k3 ?k4 ?k5; (case k1 => walk_at "look"); (case k2 => walk_at "look"); (case k3 => assumption); (case k4 => assumption))
  | (show spFinishR _ _ _ _ _; refine' u_FinishR ?k1 ?k2 ?k3 ?k4; (case k1 => walk_at "look"); (case k2 => walk_at "look"); (case k3 => assumption))
  | (show spPacketI _ _ _ _ _; refine' u_PacketI ?k1 ?k2 ?k3 ?k4; (case k1 => walk_at "look"); (case k2 => walk_at "look"); (case k3 => walk_at "ne"))
  | ((with_reducible show RRd _ _ _ _ _ _ _ _ _ _); intro t9 H9 e9 h9 d9 l9))
def RRPkt (K : PySem.W.Frag) (p : Addr) (a t : Int) (os : List Int) (H : Hp) (Q : VK) : Prop := ∀ q dx oc H', H q = none → H oc = none → Kp [p] H H' → PkOK K H' q dx oc a t os → Q (.ref q) H'
def spRPkt (K : PySem.W.Frag) : Sp := fun vs H Q _ => ∃ (p dx nl : Addr) (ln a t : Int) (ns os : List Int), vs = [.ref p] ∧ RdA K H p dx nl ln 0 ∧ H nl = some (.lst (nis ns)) ∧ nl ≠ p ∧ ns = pkN a t os ∧ os.length ≤ 1000 ∧ RRPkt K p a t os H Q
abbrev N_read_packet : List Str := ["reader", "sender", "target", "marked", "packet"]
theorem sc_read_packet : FnScope N_read_packet ["reader"] (defScope s_read_packet) := ⟨rfl, rfl, rfl, by decide +kernel, rfl, by decide +kernel, by decide +kernel⟩
theorem fo_read_packet (W : Wld K mg) : ∃ fd, FnOk P w K mg base CX0 4 (pl_read_packet.ad K) fd ["reader"] (spRPkt K) ∧ FunD K "read_packet" "read_packet" (defArgs s_read_packet) (defBody s_read_packet) (defScope s_read_packet) [] [] (pl_read_packet.ad K) fd := by
  obtain ⟨fd, F⟩ := W.d_read_packet
  refine ⟨fd, F.ok sc_read_packet (fun vs H Q E h => ?_) (fun cdv A outer s H vs Q E hr h => ?_), F⟩
  · obtain ⟨p, dx, nl, ln, a, t, ns, os, rfl, z1, z2, n1, hd, l1, q⟩ := h; rfl
  · obtain ⟨p, dx, nl, ln, a, t, ns, os, rfl, z1, z2, n1, hd, l1, q⟩ := h
    have hu := hu_of hr
    refine ⟨_, PSs.nox (pss_cons (ps_set (i := 1) sc_read_packet.nd rfl (Or.inl rfl) (pe_mt0 (ok_CodeReader_number (P := P) (K := K) W) (hr.mono (by decide)) (pv 0)))
      (pss_cons (ps_set (i := 2) sc_read_packet.nd rfl (Or.inl rfl) (pe_mt0 (ok_CodeReader_number (P := P) (K := K) W) (hr.mono (by decide)) (pv 0)))
      (pss_cons (ps_set (i := 3) sc_read_packet.nd rfl (Or.inl rfl) (pe_mt0 (ok_CodeReader_flag (P := P) (K := K) W) (hr.mono (by decide)) (pv 0)))
      (pss_cons (ps_set (i := 4) sc_read_packet.nd rfl (Or.inl rfl) (pe_mkK (ok_Packet_make_k (P := P) (K := K) W) (hr.mono (by decide)) (by rfl) (pa_cons (pv 1) (pa_cons (pv 2) (pa_cons (pe_mt0 (ok_CodeReader_many (P := P) (K := K) W) (hr.mono (by decide)) (pv 0)) pa_nil))) (pk_cons (pv 3) pk_nil)))
      (pss_cons (ps_expr (pe_mt0 (ok_CodeReader_finish (P := P) (K := K) W) (hr.mono (by decide)) (pv 0)))
      (pss_one (ps_ret (pv 4)))))))), ?_⟩
    have hd0 : ns.drop 0 = a :: t :: 0 :: (os.length : Int) :: (os ++ []) := by rw [hd]; simp [pkN]
    walk_at "s"
    rename_i t3 H3 e3 h3 d3 l3 t4 H4 e4 h4 d4 l4 t5 H5 e5 h5 d5 l5
    refine u_Many os h5 (by walk_at "look") n1 d5 (by omega) ?_
    intro t6 l6 H6 f6 e6 h6 d6 le6 hl6
    walk_at "s"
    rename_i px pd fpx fpd npx oc H7 foc noc e7 h7 hoc
    exact q px pd oc _ (by walk_at "fresh") (by walk_at "fresh") (by walk_at "kp") ⟨by walk_at "look", by walk_at "look"⟩
theorem ok_read_packet (W : Wld K mg) : GFn P w K mg base "read_packet" 4 ["reader"] (spRPkt K) := by
  obtain ⟨fd, F1, F⟩ := fo_read_packet (P := P) (w := w) (base := base) W
  exact ⟨⟨_, fd, F1, W.g_read_packet, F.kp, F.bindsN fun _ _ _ _ _ _ us hl => match us, hl with | [_], _ => rfl⟩⟩
theorem u_RPkt {p dx nl : Addr} {ln a t : Int} {ns os : List Int} {H : Hp} {Q : VK} (h1 : RdA K H p dx nl ln 0) (h2 : H nl = some (.lst (nis ns))) (n1 : nl ≠ p) (hd : ns = pkN a t os) (l : os.length ≤ 1000) (q : RRPkt K p a t os H Q) : spRPkt K [.ref p] H Q E0 := ⟨p, dx, nl, ln, a, t, ns, os, rfl, h1, h2, n1, hd, l, q⟩
theorem pe_ixL {X : Cx} {a b : Expr} {ta tb : TE} {pos : Pos} {K9 : PySem.W.Frag} (hK : X.K = K9) (ha : PE X a ta) (hb : PE X b tb) (hs : PlainIx b) : PE X (.Subscript a b pos) (tOp (rIxL K9) ta tb) := hK ▸ pe_ix ix_list ha hb hs
def RROpt (K : PySem.W.Frag) (p dx nl : Addr) (ln : Int) (ns rest : List Int) (o : OptD) (H : Hp) (Q : VK) : Prop := ∀ oa od (t : Nat) H', H oa = none → Kp [p] H H' → RdA K H' p dx nl ln t → ns.drop t = rest → OAt K H' oa od o → Q (.ref oa) H'
def spROpt (K : PySem.W.Frag) : Sp := fun vs H Q _ => ∃ (p dx nl : Addr) (ln : Int) (t : Nat) (ns rest : List Int) (o : OptD), vs = [.ref p] ∧ RdA K H p dx nl ln t ∧ H nl = some (.lst (nis ns)) ∧ nl ≠ p ∧ ns.drop t = optN o ++ rest ∧ o.Ok ∧ RROpt K p dx nl ln ns rest o H Q
abbrev N_read_options : List Str := ["reader", "numbers", "nagle", "control", "_"]
theorem sc_read_options : FnScope N_read_options ["reader"] (defScope s_read_options) := ⟨rfl, rfl, rfl, by decide +kernel, rfl, by decide +kernel, by decide +kernel⟩
theorem fo_read_options (W : Wld K mg) : ∃ fd, FnOk P w K mg base CX0 4 (pl_read_options.ad K) fd ["reader"] (spROpt K) ∧ FunD K "read_options" "read_options" (defArgs s_read_options) (defBody s_read_options) (defScope s_read_options) [] [] (pl_read_options.ad K) fd := by
  obtain ⟨fd, F⟩ := W.d_read_options
  refine ⟨fd, F.ok sc_read_options (fun vs H Q E h => ?_) (fun cdv A outer s H vs Q E hr h => ?_), F⟩
  · obtain ⟨p, dx, nl, ln, t, ns, rest, o, rfl, z1, z2, n1, hd, ok, q⟩ := h; rfl
  · obtain ⟨p, dx, nl, ln, t, ns, rest, o, rfl, z1, z2, n1, hd, ok, q⟩ := h
    have hu := hu_of hr
    refine ⟨_, PSs.nox (pss_cons (ps_setLc (i := 1) (own := [("_", 4)]) (g := gName 4) (tt := tYes) rfl sc_read_options.nd rfl rfl (sw_true rfl rfl rfl (by decide +kernel)) (pi_range1 rfl W.f_range (pa_cons pe_int pa_nil)) (blkOk_by (own := [("_", 4)]) (N := N_read_options) (sc := defScope s_read_options) (by decide +kernel)) (fun _ _ _ _ _ => pg_name (i := 4) sc_read_options.nd rfl (Or.inl rfl)) (fun _ _ _ _ _ => pts_nil) (fun _ _ _ _ _ => (pe_mt0 (ok_CodeReader_number (P := P) (K := K) W) (hr.mono (by decide)) (pv 0))))
      (pss_cons (ps_set (i := 2) sc_read_options.nd rfl (Or.inl rfl) (pe_mt0 (ok_CodeReader_flag (P := P) (K := K) W) (hr.mono (by decide)) (pv 0)))
      (pss_cons (ps_set (i := 3) sc_read_options.nd rfl (Or.inl rfl) (pe_mt (ok_CodeReader_choice (P := P) (K := K) W) (hr.mono (by decide)) (pv 0) (pa_cons (pe_gref rfl W.g_CONTROLS) pa_nil)))
      (pss_one (ps_try_only rfl rfl ⟨rfl, by decide, .inl W.g_InvalidOptions⟩ takes0 (fun _ _ _ _ _ => (pss_one (ps_ret (pe_mkK0 (ok_Options_make_k (P := P) (K := K) W) (hr.mono (by decide)) (by rfl) (pk_cons (pe_ixL (K9 := K) rfl (pv 1) pe_int (fun _ _ => rfl)) (pk_cons (pe_ixL (K9 := K) rfl (pv 1) pe_int (fun _ _ => rfl)) (pk_cons (pe_ixL (K9 := K) rfl (pv 1) pe_int (fun _ _ => rfl)) (pk_cons (pe_ixL (K9 := K) rfl (pv 1) pe_int (fun _ _ => rfl)) (pk_cons (pe_ixL (K9 := K) rfl (pv 1) pe_int (fun _ _ => rfl)) (pk_cons (pe_ixL (K9 := K) rfl (pv 1) pe_int (fun _ _ => rfl)) (pk_cons (pe_ixL (K9 := K) rfl (pv 1) pe_int (fun _ _ => rfl)) (pk_cons (pe_ixL (K9 := K) rfl (pv 1) pe_int (fun _ _ => rfl)) (pk_cons (pe_ixL (K9 := K) rfl (pv 1) pe_int (fun _ _ => rfl)) (pk_cons (pv 2) (pk_cons (pv 3) pk_nil))))))))))))))) (fun _ _ _ _ _ _ _ => pss_never)))))), ?_⟩
    have hd0 : ns.drop t = [o.mss, o.room, o.life, o.pace, o.tries, o.mn, o.mx, o.dly, o.alive] ++ (b2i o.nagle :: b2i o.cubic :: rest) := by rw [hd]; simp [optN]
    walk_at "s"
    rename_i Dl fD
    refine c_lcNums [o.mss, o.room, o.life, o.pace, o.tries, o.mn, o.mx, o.dly, o.alive] (by rfl) (by show 9 ≤ 1000; decide) z1 z2 n1 hd0 fD ?_ ?_ ?_
    · exact fun _ => rfl
    · exact fun _ => rfl
    intro t2 H2 e2 rd2 dr2 hD2
    walk_at "s"
    refine u_Flagb rd2 (by walk_at "look") n1 dr2 ?_
    walk_at "s"
    rename_i t3 H3 e3 rd3 dr3 l3
    have tC := W.t_CONTROLS
    have hz : (["reno", "cubic"] : List Str)[if o.cubic = true then 1 else 0]? = some o.ctl := by
      unfold OptD.ctl
      cases o.cubic <;> rfl
    have hj : b2i o.cubic = ((if o.cubic = true then 1 else 0 : Nat) : Int) := by cases o.cubic <;> rfl
    refine u_Choice (if o.cubic = true then 1 else 0) _ o.ctl rd3 (by walk_at "look") n1 dr3 hj tC hz ?_
    walk_at "s"
    rename_i t4 H4 e4 rd4 dr4 l4 ox od fx fd nn
    refine u_OptionsI (dx := od) (o := o) ok (by walk_at "look") ?_
    intro H5 e5 h5
    refine ⟨rfl, ?_⟩
    exact q ox od t4 H5 (by walk_at "fresh") (by walk_at "kp") (by walk_at "look") dr4 h5
theorem ok_read_options (W : Wld K mg) : GFn P w K mg base "read_options" 4 ["reader"] (spROpt K) := by
  obtain ⟨fd, F1, F⟩ := fo_read_options (P := P) (w := w) (base := base) W
  exact ⟨⟨_, fd, F1, W.g_read_options, F.kp, F.bindsN fun _ _ _ _ _ _ us hl => match us, hl with | [_], _ => rfl⟩⟩
theorem u_ROpt {p dx nl : Addr} {ln : Int} {t : Nat} {ns rest : List Int} {o : OptD} {H : Hp} {Q : VK} (h1 : RdA K H p dx nl ln t) (h2 : H nl = some (.lst (nis ns))) (n1 : nl ≠ p) (hd : ns.drop t = optN o ++ rest) (ok : o.Ok) (q : RROpt K p dx nl ln ns rest o H Q) : spROpt K [.ref p] H Q E0 := ⟨p, dx, nl, ln, t, ns, rest, o, rfl, h1, h2, n1, hd, ok, q⟩
def spRLis (K : PySem.W.Frag) : Sp := fun vs H Q _ => ∃ (p dx nl L : Addr) (ln a b : Int) (ls : List (Int × Int)), vs = [.ref p, .ref L] ∧ RdA K H p dx nl ln 0 ∧ H nl = some (.lst (nis [a, b])) ∧ nl ≠ p ∧ H L = some (.dK (lsV ls)) ∧ ls.length ≤ 1000 ∧ (∀ q ∈ ls, q.1 ≠ a) ∧ (∀ H', Kp [p, L] H H' → H' L = some (.dK (lsV (ls ++ [(a, b)]))) → Q .non H')
local macro_rules | `(tactic| walk_at "s1") => `(tactic| first
  | (with_reducible refine c_din ?_)
  | ((with_reducible refine' c_dinI ?k1 ?k2); (case k1 => walk_at "look")))
abbrev N_read_listener : List Str := ["reader", "listeners", "port", "backlog"]
theorem sc_read_listener : FnScope N_read_listener ["reader", "listeners"] (defScope s_read_listener) := ⟨rfl, rfl, rfl, by decide +kernel, rfl, by decide +kernel, by decide +kernel⟩
theorem fo_read_listener (W : Wld K mg) : ∃ fd, FnOk P w K mg base CX0 2 (pl_read_listener.ad K) fd ["reader", "listeners"] (spRLis K) ∧ FunD K "read_listener" "read_listener" (defArgs s_read_listener) (defBody s_read_listener) (defScope s_read_listener) [] [] (pl_read_listener.ad K) fd := by
  obtain ⟨fd, F⟩ := W.d_read_listener
  refine ⟨fd, F.ok sc_read_listener (fun vs H Q E h => ?_) (fun cdv A outer s H vs Q E hr h => ?_), F⟩
  · obtain ⟨p, dx, nl, L, ln, a, b, ls, rfl, z1, z2, n1, zL, l1, hn, q⟩ := h; rfl
  · obtain ⟨p, dx, nl, L, ln, a, b, ls, rfl, z1, z2, n1, zL, l1, hn, q⟩ := h
    have hu := hu_of hr
    refine ⟨_, PSs.nox (pss_cons (ps_set (i := 2) sc_read_listener.nd rfl (Or.inl rfl) (pe_mt0 (ok_CodeReader_number (P := P) (K := K) W) (hr.mono (by decide)) (pv 0)))
      (pss_cons (ps_set (i := 3) sc_read_listener.nd rfl (Or.inl rfl) (pe_mt0 (ok_CodeReader_number (P := P) (K := K) W) (hr.mono (by decide)) (pv 0)))
      (pss_cons (ps_expr (pe_mt0 (ok_CodeReader_finish (P := P) (K := K) W) (hr.mono (by decide)) (pv 0)))
      (pss_cons (ps_if (pt_cmp (pc_din hu (pv 2) (pv 1))) (pss_one ps_never) pss_nil)
      (pss_one (ps_dput hu (pv 1) (pv 2) (pv 3) rfl)))))), ?_⟩
    have nL : L ≠ p := fun e => by
      have z1 : H p = some (.ins (He.ga K "CodeReader") dx (RCodeReader.fs (rdR nl ln 0))) := z1
      rw [e, z1] at zL
      cases zL
    have hd0 : ([a, b] : List Int).drop 0 = [a, b] := rfl
    walk_at "s"
    refine br_f (by rw [lsV_none hn]; rfl) ?_
    walk_at "s"
    rename_i t3 H3 e3 h3 d3 l3 t4 H4 e4 h4 d4 l4
    refine q _ (fun x o hx hm => upd_app (e4 _ _ (e3 _ _ hx (fun z => hm (by rw [List.mem_singleton.mp z]; exact mem0))) (fun z => hm (by rw [List.mem_singleton.mp z]; exact mem0))) (fun z => hm (by rw [z]; exact mem1))) ?_
    rw [← lsV_put hn]
    exact upd_same
theorem ok_read_listener (W : Wld K mg) : GFn P w K mg base "read_listener" 2 ["reader", "listeners"] (spRLis K) := by
  obtain ⟨fd, F1, F⟩ := fo_read_listener (P := P) (w := w) (base := base) W
  exact ⟨⟨_, fd, F1, W.g_read_listener, F.kp, F.bindsN fun _ _ _ _ _ _ us hl => match us, hl with | [_, _], _ => rfl⟩⟩
theorem u_RLis {p dx nl L : Addr} {ln a b : Int} {ls : List (Int × Int)} {H : Hp} {Q : VK} (h1 : RdA K H p dx nl ln 0) (h2 : H nl = some (.lst (nis [a, b]))) (n1 : nl ≠ p) (h3 : H L = some (.dK (lsV ls))) (l : ls.length ≤ 1000) (hn : ∀ q ∈ ls, q.1 ≠ a) (q : ∀ H', Kp [p, L] H H' → H' L = some (.dK (lsV (ls ++ [(a, b)]))) → Q .non H') : spRLis K [.ref p, .ref L] H Q E0 := ⟨p, dx, nl, L, ln, a, b, ls, rfl, h1, h2, n1, h3, l, hn, q⟩
end
end
/-! part D28 -/
section
set_option maxHeartbeats 4000000
open PySem PySem.Spec PyProof.Rows L2 ClX TL

section
variable {P : Program} [PrOk P] {w : World} {K : PySem.W.Frag} {mg : Str → Option Value} {base : Heap}
theorem c_m1' {r : V → List V → Hp → VK → Prop} {to te : TE} {σ : L2.St} {H : Hp} {Q : VK} (h : to σ H fun x H1 => (∃ a, x = .str a) ∧ te σ H1 fun y H2 => r x [y] H2 Q) : tM1 r to te σ H Q := h
theorem c_isstr' {z : Str} {B : Prop} (k : B) : (∃ a, V.str z = .str a) ∧ B := ⟨⟨z, rfl⟩, k⟩
local macro_rules | `(tactic| walk_at "s1") => `(tactic| first
  | (with_reducible refine c_m1' ?_)
  | (with_reducible refine c_isstr' ?_))
theorem num_nil {n : Int} (h : 0 ≤ n) : decide (V.str (numS n) = V.str "") = false := by
  refine decide_eq_false fun e => num_ne h ?_
  have e2 := V.str.inj e
  rw [e2]
  decide +kernel
def spRNum : Sp := fun vs H Q _ => ∃ n ln : Int, vs = [.str (numS n), .int ln] ∧ (0 ≤ n ∧ n < 10 ^ 20) ∧ Q (.int n) H
abbrev N_read_number : List Str := ["word", "line", "char"]
theorem sc_read_number : FnScope N_read_number ["word", "line"] (defScope s_read_number) := ⟨rfl, rfl, rfl, by decide +kernel, rfl, by decide +kernel, by decide +kernel⟩
theorem fo_read_number (W : Wld K mg) : ∃ fd, FnOk P w K mg base CX0 1 (pl_read_number.ad K) fd ["word", "line"] spRNum ∧ FunD K "read_number" "read_number" (defArgs s_read_number) (defBody s_read_number) (defScope s_read_number) [] [] (pl_read_number.ad K) fd := by
  obtain ⟨fd, F⟩ := W.d_read_number
  refine ⟨fd, F.ok sc_read_number (fun vs H Q E h => ?_) (fun cdv A outer s H vs Q E hr h => ?_), F⟩
  · obtain ⟨n, ln, rfl, hn, q⟩ := h; rfl
  · obtain ⟨n, ln, rfl, hn, q⟩ := h
    have hu := hu_of hr
    refine ⟨_, PSs.nox (pss_cons (ps_if (PW.pt (pw_or (pt_cmpR op_eq (pv 0) pe_str (nomark _)) (pw_or (PW.pt (pw_and (pt_cmpR op_eq (pe_ix ix_str (pv 0) pe_int (fun _ _ => rfl)) pe_str (nomark _)) (pw_and1 (pt_cmpR op_gt (pe_callB call_len_str (by rfl) W.f_len boot_len (pa_cons (pv 0) pa_nil)) pe_int (nomark _))))) (pw_or1 (pt_cmpR op_gt (pe_callB call_len_str (by rfl) W.f_len boot_len (pa_cons (pv 0) pa_nil)) pe_int (nomark _)))))) (pss_one ps_never) pss_nil)
      (pss_cons (ps_for PassesOwn.never rfl (pi_str (pv 0)) (pg_name (i := 2) sc_read_number.nd rfl (Or.inl rfl)) (pss_one (ps_if (pt_cmpR op_notIn_sign (pv 2) (pe_gstr rfl W.i_DIGITS) rfl) (pss_one ps_never) pss_nil)))
      (pss_one (ps_ret (pe_callTy call_int_str (by rfl) W.f_int bt_int (pa_cons (pv 0) pa_nil)))))), ?_⟩
    have hl := num_len hn
    walk_at "s"
    refine br_f (num_nil hn.1) ?_
    walk_at "s"
    obtain ⟨c, cs, hcs⟩ : ∃ c cs, tl (numS n) = c :: cs := by
      cases q2 : tl (numS n) with
      | nil => exact absurd q2 (num_ne hn.1)
      | cons c cs => exact ⟨c, cs, rfl⟩
    have hz : (numS n).length ≤ sizeLine := by rw [sizeLine_eq]; omega
    refine ⟨numS n, 0, c, rfl, rfl, hz, by rw [show (numS n).cps.toList = c :: cs from hcs]; exact atI_nat (j := 0) rfl, ?_⟩
    walk_at "s"
    refine br_2 (fun e => ?_) (fun e => ?_)
    · have e1 : V.str ⟨#[c]⟩ = V.str "0" := of_decide_eq_true e
      have e2 : tl ⟨#[c]⟩ = tl ("0" : Str) := by rw [V.str.inj e1]
      have e3 : [c] = [48] := e2.trans (by decide +kernel)
      have e4 := num_lead hn.1 hcs (List.cons.inj e3).1
      have e5 : (numS n).length = 1 := by rw [len_tl, hcs, e4]; rfl
      walk_at "s"
      refine ⟨_, rfl, hz, ?_⟩
      walk_at "s"
      refine ⟨_, rfl, hz, ?_⟩
      walk_at "s"
      refine (show tVar 0 _ _ _ from c_var rfl ⟨numS n, rfl, ?_⟩)
      refine for_it walk_str (fun i σ H' => H' = H ∧ ∃ v, σ = [some (.str (numS n)), some (.int ln), v]) ⟨rfl, none, rfl⟩ (fun _ _ _ _ _ => trivial) ?_ ?_
      · rintro i x σ H1 H2 hi ⟨rfl, v, rfl⟩ ⟨rfl, ch, hch, rfl⟩
        have hm : ch ∈ tl ("0123456789" : Str) := by
          have h1 := num_digits hn.1 ch (by show ch ∈ (numS n).cps.toList; exact Array.mem_toList_iff.mpr (Array.mem_of_getElem? hch))
          rw [show tl ("0123456789" : Str) = [48, 49, 50, 51, 52, 53, 54, 55, 56, 57] by decide +kernel]
          simp only [List.mem_cons, List.mem_nil_iff, or_false]
          omega
        walk_at "s"
        refine ⟨ch, _, rfl, rfl, ?_⟩
        refine (show ∃ k, V.bl (!decide (ch ∈ tl ("0123456789" : Str))) = .bl k ∧ _ from c_bl ?_)
        refine br_f (nd_f hm) ?_
        walk_at "s"
        exact ⟨rfl, _, rfl⟩
      · rintro σ H1 ⟨rfl, v, rfl⟩
        walk_at "s"
        exact ⟨_, n, rfl, num_reads hn, by omega, q⟩
    · walk_at "s"
      refine ⟨_, rfl, hz, ?_⟩
      walk_at "s"
      refine (show tVar 0 _ _ _ from c_var rfl ⟨numS n, rfl, ?_⟩)
      refine for_it walk_str (fun i σ H' => H' = H ∧ ∃ v, σ = [some (.str (numS n)), some (.int ln), v]) ⟨rfl, none, rfl⟩ (fun _ _ _ _ _ => trivial) ?_ ?_
      · rintro i x σ H1 H2 hi ⟨rfl, v, rfl⟩ ⟨rfl, ch, hch, rfl⟩
        have hm : ch ∈ tl ("0123456789" : Str) := by
          have h1 := num_digits hn.1 ch (by show ch ∈ (numS n).cps.toList; exact Array.mem_toList_iff.mpr (Array.mem_of_getElem? hch))
          rw [show tl ("0123456789" : Str) = [48, 49, 50, 51, 52, 53, 54, 55, 56, 57] by decide +kernel]
          simp only [List.mem_cons, List.mem_nil_iff, or_false]
          omega
        walk_at "s"
        refine ⟨ch, _, rfl, rfl, ?_⟩
        refine (show ∃ k, V.bl (!decide (ch ∈ tl ("0123456789" : Str))) = .bl k ∧ _ from c_bl ?_)
        refine br_f (nd_f hm) ?_
        walk_at "s"
        exact ⟨rfl, _, rfl⟩
      · rintro σ H1 ⟨rfl, v, rfl⟩
        walk_at "s"
        exact ⟨_, n, rfl, num_reads hn, by omega, q⟩
theorem ok_read_number (W : Wld K mg) : GFn P w K mg base "read_number" 1 ["word", "line"] spRNum := by
  obtain ⟨fd, F1, F⟩ := fo_read_number (P := P) (w := w) (base := base) W
  exact ⟨⟨_, fd, F1, W.g_read_number, F.kp, F.bindsN fun _ _ _ _ _ _ us hl => match us, hl with | [_, _], _ => rfl⟩⟩
theorem u_RNum {n ln : Int} {H : Hp} {Q : VK} (hn : 0 ≤ n ∧ n < 10 ^ 20) (q : Q (.int n) H) : spRNum [.str (numS n), .int ln] H Q E0 := ⟨n, ln, rfl, hn, q⟩
def spLRdI (C : Addr) : Sp := fun vs H Q _ => ∃ (p dx : Addr) (z : Str), vs = [.ref p, .str z] ∧ H p = some (.ins C dx []) ∧ z.length + 2 ≤ sizeLine ∧ RI1 p (fun a => .ins C dx (RLineReader.fs ⟨.ref a, .int 0⟩)) (.lst ((Txt.split z "\n").map V.str)) H Q
abbrev N_LineReader___init__ : List Str := ["self", "text"]
theorem sc_LineReader___init__ : FnScope N_LineReader___init__ ["self", "text"] (defScope s_LineReader___init__) := ⟨rfl, rfl, rfl, by decide +kernel, rfl, by decide +kernel, by decide +kernel⟩
theorem fo_LineReader___init__ (W : Wld K mg) : ∃ fd, FnOk P w K mg base CX0 1 (pl_LineReader___init__.ad K) fd ["self", "text"] (spLRdI (He.ga K "LineReader")) ∧ FunD K "__init__" "LineReader.__init__" (defArgs s_LineReader___init__) (defBody s_LineReader___init__) (defScope s_LineReader___init__) [] [] (pl_LineReader___init__.ad K) fd := by
  obtain ⟨fd, F⟩ := W.d_LineReader___init__
  refine ⟨fd, F.ok sc_LineReader___init__ (fun vs H Q E h => ?_) (fun cdv A outer s H vs Q E hr h => ?_), F⟩
  · obtain ⟨p, dx, z, rfl, z1, hl, q⟩ := h; rfl
  · obtain ⟨p, dx, z, rfl, z1, hl, q⟩ := h
    have hu := hu_of hr
    refine ⟨_, PSs.nox (pss_cons (ps_ini W.c_LineReader W.n_LineReader_lines (pv 0) (pe_split (pv 1) pe_str))
      (pss_one (ps_ini W.c_LineReader W.n_LineReader_at (pv 0) pe_int))), ?_⟩
    walk_at "s"
    refine ⟨_, _, rfl, rfl, by decide +kernel, hl, ?_⟩
    intro a fa
    walk_at "s"
    exact q a _ (by walk_at "fresh") (by walk_at "ne") (by walk_at "kp") (by walk_at "ins") (by walk_at "look")
theorem ok_LineReader_make (W : Wld K mg) : MkC P w K mg base "LineReader" (He.ga K "LineReader") 1 ["self", "text"] [] (spLRdI (He.ga K "LineReader")) := by
  obtain ⟨fd, F1, F⟩ := fo_LineReader___init__ (P := P) (w := w) (base := base) W
  exact ⟨⟨_, fd, [], W.mk_LineReader, F1, W.g_LineReader, F.bindsN fun _ _ _ _ _ _ us hl => match us, hl with | [_, _], _ => rfl, .nil⟩⟩
theorem u_LRdI {C p dx : Addr} {z : Str} {H : Hp} {Q : VK} (h : H p = some (.ins C dx [])) (hl : z.length + 2 ≤ sizeLine) (q : RI1 p (fun a => .ins C dx (RLineReader.fs ⟨.ref a, .int 0⟩)) (.lst ((Txt.split z "\n").map V.str)) H Q) : spLRdI C [.ref p, .str z] H Q E0 := ⟨p, dx, z, rfl, h, hl, q⟩
abbrev LRd (K : PySem.W.Frag) (H : Hp) (l dx lst : Addr) (i : Int) : Prop := H l = some (.ins (He.ga K "LineReader") dx (RLineReader.fs ⟨.ref lst, .int i⟩))
def RNxt (K : PySem.W.Frag) (l ldx lst : Addr) (i : Nat) (c : List Int) (H : Hp) (Q : VK) : Prop := ∀ p dx nl H', H p = none → H nl = none → nl ≠ p → Kp [l] H H' → LRd K H' l ldx lst ((i : Int) + 1) → RdA K H' p dx nl ((i : Int) + 1) 0 → H' nl = some (.lst (nis c)) → Q (.ref p) H'
def spNext (K : PySem.W.Frag) : Sp := fun vs H Q _ => ∃ (l ldx lst : Addr) (i : Nat) (zs : List Str) (c : List Int), vs = [.ref l] ∧ LRd K H l ldx lst i ∧ H lst = some (.lst (zs.map V.str)) ∧ lst ≠ l ∧ zs[i]? = some (lineS c) ∧ i + 1 < zs.length ∧ Nums c ∧ c ≠ [] ∧ RNxt K l ldx lst i c H Q
abbrev N_LineReader_next_code : List Str := ["self", "words", "word"]
theorem sc_LineReader_next_code : FnScope N_LineReader_next_code ["self"] (defScope s_LineReader_next_code) := ⟨rfl, rfl, rfl, by decide +kernel, rfl, by decide +kernel, by decide +kernel⟩
theorem fo_LineReader_next_code (W : Wld K mg) : ∃ fd, FnOk P w K mg base CX0 3 (pl_LineReader_next_code.ad K) fd ["self"] (spNext K) ∧ FunD K "next_code" "LineReader.next_code" (defArgs s_LineReader_next_code) (defBody s_LineReader_next_code) (defScope s_LineReader_next_code) [] [] (pl_LineReader_next_code.ad K) fd := by
  obtain ⟨fd, F⟩ := W.d_LineReader_next_code
  refine ⟨fd, F.ok sc_LineReader_next_code (fun vs H Q E h => ?_) (fun cdv A outer s H vs Q E hr h => ?_), F⟩
  · obtain ⟨l, ldx, lst, i, zs, c, rfl, z1, z2, n1, hz, hi, hn, hne, q⟩ := h; rfl
  · obtain ⟨l, ldx, lst, i, zs, c, rfl, z1, z2, n1, hz, hi, hn, hne, q⟩ := h
    have hu := hu_of hr
    refine ⟨_, PSs.nox (pss_cons (ps_putaug W.c_LineReader W.n_LineReader_at RLineReader.l_at_ RLineReader.p_at_ RLineReader.len (pv 0) pe_int in_add)
      (pss_cons (ps_if (pt_cmpR op_ge (pe_get W.c_LineReader W.n_LineReader_at RLineReader.l_at_ (pv 0)) (pe_callB call_len_seq (by rfl) W.f_len boot_len (pa_cons (pe_get W.c_LineReader W.n_LineReader_lines RLineReader.l_lines (pv 0)) pa_nil)) (nomark _)) (pss_one ps_never) pss_nil)
      (pss_cons (ps_set (i := 1) sc_LineReader_next_code.nd rfl (Or.inl rfl) (pe_split (pe_ix ix_list (pe_get W.c_LineReader W.n_LineReader_lines RLineReader.l_lines (pv 0)) (pe_op op_sub (pe_get W.c_LineReader W.n_LineReader_at RLineReader.l_at_ (pv 0)) pe_int) (fun _ _ => rfl)) pe_str))
      (pss_one (ps_ret (pe_mk (ok_CodeReader_make (P := P) (K := K) W) (hr.mono (by decide)) (by rfl) (pa_cons (pe_lc (own := [("word", 2)]) (g := gName 2) (tt := tYes) rfl sc_LineReader_next_code.nd (pi_list (pv 1)) (blkOk_by (own := [("word", 2)]) (N := N_LineReader_next_code) (sc := defScope s_LineReader_next_code) (by decide +kernel)) (fun _ _ _ _ _ => pg_name (i := 2) sc_LineReader_next_code.nd rfl (Or.inl rfl)) (fun _ _ _ _ _ => pts_nil) (fun _ _ _ _ _ => (pe_fn (ok_read_number (P := P) (K := K) W) (hr.mono (by decide)) (by rfl) (pa_cons (pv 2) (pa_cons (pe_get W.c_LineReader W.n_LineReader_at RLineReader.l_at_ (pv 0)) pa_nil))))) (pa_cons (pe_get W.c_LineReader W.n_LineReader_at RLineReader.l_at_ (pv 0)) pa_nil)))))))), ?_⟩
    walk_at "s"
    refine br_f (decide_eq_false (by simp; omega)) ?_
    walk_at "s"
    refine' c_ixL (v := .str (lineS c)) (p := lst) (xs := zs.map V.str) ?k1 ?k2 ?k3
    case k1 => walk_at "look"
    case k2 => rw [show (i : Int) + 1 - 1 = (i : Int) by omega]; exact atI_nat (by rw [List.getElem?_map, hz]; rfl)
    have hll := line_len hn
    refine c_isstr' ?_
    walk_at "s"
    refine ⟨_, _, rfl, rfl, by decide +kernel, by rw [sizeLine_eq]; omega, ?_⟩
    intro wl fwl
    rw [show Txt.split (lineS c) (Str.ofString " ") = c.map numS from line_split hn hne]
    walk_at "s"
    rename_i Dl fD
    refine c_mapV (xs := (c.map numS).map V.str) (nis c) (by simp) ?_ (by have := hn.1; simp; omega) fD ?_ ?_ ?_
    · walk_at "look"
    · exact fun _ => rfl
    · intro j x y H' hx hy e Q' hq
      obtain ⟨n, rfl, hj⟩ := nis_at hy
      rw [List.getElem?_map, List.getElem?_map, hj] at hx
      obtain rfl := Option.some.inj hx
      have hm := hn.2 n (List.mem_of_getElem? hj)
      walk_at "s"
      refine u_RNum hm ?_
      exact hq _ (fun _ _ h => h)
    · intro H2 e2 hD
      walk_at "s"
      rename_i px pd fpx fpd npx
      refine u_CodeReaderI (by walk_at "look") ?_
      intro H3 e3 h3
      refine ⟨rfl, ?_⟩
      exact q px pd Dl H3 (by walk_at "fresh") (by walk_at "fresh") (by walk_at "ne") (by walk_at "kp") (by walk_at "look") h3 (by walk_at "look")
theorem ok_LineReader_next_code (W : Wld K mg) : MFn P w K mg base (He.ga K "LineReader") "next_code" 3 ["self"] [] (spNext K) := by
  obtain ⟨fd, F1, F⟩ := fo_LineReader_next_code (P := P) (w := w) (base := base) W
  exact ⟨⟨_, fd, [], W.c_LineReader, W.m_LineReader_next_code, F1, F.bindsN fun _ _ _ _ _ _ us hl => match us, hl with | [_], _ => rfl, .nil⟩⟩
theorem u_Next {l ldx lst : Addr} {i : Nat} {zs : List Str} {c : List Int} {H : Hp} {Q : VK} (h1 : LRd K H l ldx lst i) (h2 : H lst = some (.lst (zs.map V.str))) (n1 : lst ≠ l) (hz : zs[i]? = some (lineS c)) (hi : i + 1 < zs.length) (hn : Nums c) (hne : c ≠ []) (q : RNxt K l ldx lst i c H Q) : spNext K [.ref l] H Q E0 := ⟨l, ldx, lst, i, zs, c, rfl, h1, h2, n1, hz, hi, hn, hne, q⟩
end
end
/-! part D29 -/
section
set_option maxHeartbeats 4000000
open PySem PySem.Spec PyProof.Rows L2 ClX TL

local macro_rules | `(tactic| walk_at "s1") => `(tactic| first
  | ((with_reducible refine' c_gnum ?a ?b ?c ?d ?e ?k); (case a => rfl); (case b => rfl); (case c => assumption); (case d => assumption); (case e => assumption); intro t9 H9 R9 h9; dsimp only at h9; have k9 := Rs.kp R9)
  | ((with_reducible refine' c_gmay0 ?a ?b ?c ?d ?e ?k); (case a => rfl); (case b => rfl); (case c => assumption); (case d => assumption); (case e => assumption); intro t9 H9 R9 h9; dsimp only at h9; have k9 := Rs.kp R9)
  | ((with_reducible refine' c_gmay1 ?a ?b ?c ?d ?e ?k); (case a => rfl); (case b => rfl); (case c => assumption); (case d => assumption); (case e => assumption); intro t9 H9 R9 h9; dsimp only at h9; have k9 := Rs.kp R9)
  | ((with_reducible refine' c_gflag _ ?a ?b ?c ?h ?d ?e ?k); (case a => rfl); (case b => rfl); (case c => assumption); (case h => exact Eq.refl (b2i _)); (case d => assumption); (case e => assumption); intro t9 H9 R9 h9; dsimp only at h9; have k9 := Rs.kp R9)
  | ((with_reducible refine' c_gflag false ?a ?b ?c ?h ?d ?e ?k); (case a => rfl); (case b => rfl); (case c => assumption); (case h => rfl); (case d => assumption); (case e => assumption); intro t9 H9 R9 h9; dsimp only at h9; have k9 := Rs.kp R9)
  | ((with_reducible refine' c_gmany _ ?a ?b ?c ?h ?d ?e ?k); (case a => rfl); (case b => rfl); (case c => assumption); (case h => first | assumption | decide); (case d => assumption); (case e => assumption); intro t9 l9 H9 f9 k9 R9 h9 q9; dsimp only at h9)
  | ((with_reducible refine' c_gmany0 ?a ?b ?c ?d ?e ?k); (case a => rfl); (case b => rfl); (case c => assumption); (case d => assumption); (case e => assumption); intro t9 l9 H9 f9 k9 R9 h9 q9; dsimp only at h9)
  | ((with_reducible refine' c_gpairs0 ?a ?b ?c ?d ?e ?k); (case a => rfl); (case b => rfl); (case c => assumption); (case d => assumption); (case e => assumption); intro t9 l9 H9 f9 k9 R9 h9 q9; dsimp only at h9))

section
variable {P : Program} [PrOk P] {w : World} {K : PySem.W.Frag} {mg : Str → Option Value} {base : Heap}
theorem lines_len (cs : List (List Int)) : (linesS cs).length = cs.length + 2 := by simp [linesS]
theorem lines_at {cs : List (List Int)} {j : Nat} {c : List Int} (h : cs[j]? = some c) : (linesS cs)[j + 1]? = some (lineS c) := by
  have hj : j < cs.length := (List.getElem?_eq_some_iff.mp h).1
  unfold linesS
  rw [List.getElem?_cons_succ, List.getElem?_append_left (by simpa using hj), List.getElem?_map, h]
  rfl
theorem lines_end (cs : List (List Int)) : (linesS cs)[cs.length + 1]? = some Str.empty := by
  unfold linesS
  rw [List.getElem?_cons_succ, List.getElem?_append_right (by simp)]
  simp
theorem text_len {cs : List (List Int)} (h : ∀ c ∈ cs, Nums c) (hl : cs.length ≤ 301) : (textS cs).length + 2 ≤ sizeLine := by
  have hs := lines_sum h
  have hs2 : cs.length * 42001 ≤ 301 * 42001 := Nat.mul_le_mul_right _ hl
  have hj := join_len (cs.map fun c => lineS c ++ ("\n" : Str))
  unfold textS
  rw [app_len, show (("throughline host 1" : Str) ++ ("\n" : Str)).length = 19 by decide +kernel, sizeLine_eq]
  omega
/-- readers and hosts are told from all else by their first attribute -/
def hkind : HO → Nat
  | .ins _ _ ((k, _) :: _) => if k = "lines" then 1 else if k = "address" then 2 else if k = "numbers" then 3 else 0
  | _ => 0
theorem kind_ne {H : Hp} {a b : Addr} {o u : HO} (h : H a = some o) (k : H b = some u) (n : hkind o ≠ hkind u) : a ≠ b := fun e => by
  subst e
  rw [h] at k
  exact n (by rw [Option.some.inj k])
/-- all stands but readers and hosts -/
def Pk (H H' : Hp) : Prop := ∀ b u, H b = some u → hkind u = 0 → H' b = some u
theorem Pk.trans {H H1 H2 : Hp} (a : Pk H H1) (b : Pk H1 H2) : Pk H H2 := fun x u h n => b x u (a x u h n) n
theorem Pk.kp {H H' : Hp} {S : List Addr} (e : Kp S H H') (h : ∀ b ∈ S, ∃ u, H b = some u ∧ hkind u ≠ 0) : Pk H H' := fun b u hb n1 => e b u hb fun hm => by
  obtain ⟨v, hv, k⟩ := h b hm
  rw [hb] at hv
  obtain rfl := Option.some.inj hv
  exact k n1
theorem Pk.same {H H' : Hp} (e : Same H H') : Pk H H' := fun b u h _ => e b u h
theorem kindL {dx lst : Addr} {i : Int} : hkind (.ins (He.ga K "LineReader") dx (RLineReader.fs ⟨.ref lst, .int i⟩)) = 1 := by kernel_rfl
theorem kindR {dx nl : Addr} {ln : Int} {t : Nat} : hkind (.ins (He.ga K "CodeReader") dx (RCodeReader.fs (rdR nl ln t))) = 3 := by kernel_rfl
theorem kindH {dx : Addr} {r : RHost} : hkind (.ins (He.ga K "Host") dx (RHost.fs r)) = 2 := by kernel_rfl
theorem EndOK.pk {H H' : Hp} {oa : Addr} {o : OptD} {A : EA} {d : EndD} (h : EndOK K H oa o A d) (e : Pk H H') : EndOK K H' oa o A d := by
  obtain ⟨y1, y2, y3, y4, y5, y6, y7, y8, y9⟩ := h
  refine ⟨e _ _ y1 (by kernel_rfl), e _ _ y2 (by kernel_rfl), e _ _ y3 (by kernel_rfl), e _ _ y4 (by kernel_rfl), e _ _ y5 ?_, e _ _ y6 rfl, e _ _ y7 rfl, e _ _ y8 rfl, e _ _ y9 rfl⟩
  unfold ctlO
  split <;> kernel_rfl
theorem kAt_pk {H H' : Hp} {s sd e9 : Addr} {k : SkD} (h : KAt K H s sd e9 k) (e : Pk H H') : KAt K H' s sd e9 k := e _ _ h (by kernel_rfl)
theorem PkOK.pk {H H' : Hp} {p dx oc : Addr} {a t : Int} {ns : List Int} (h : PkOK K H p dx oc a t ns) (e : Pk H H') : PkOK K H' p dx oc a t ns := ⟨e _ _ h.hp (by kernel_rfl), e _ _ h.ho rfl⟩
theorem oAt_pk {H H' : Hp} {oa od : Addr} {o : OptD} (h : OAt K H oa od o) (e : Pk H H') : OAt K H' oa od o := e _ _ h (by kernel_rfl)
theorem EndOK.pkd {H H' : Hp} {Dk oa : Addr} {o : OptD} {A : EA} {d : EndD} {u : HO} {G : Hp} (h : EndOK K H oa o A d) (n : A.NewE G) (hD : G Dk = some u) (e : ∀ b v, b ≠ Dk → hkind v = 0 → H b = some v → H' b = some v) : EndOK K H' oa o A d := by
  obtain ⟨y1, y2, y3, y4, y5, y6, y7, y8, y9⟩ := h
  obtain ⟨n1, n2, n3, n4, n5, n6, n7, n8, n9⟩ := n
  have ne : ∀ {b : Addr}, G b = none → b ≠ Dk := fun hb => (ne_of_none hD hb).symm
  refine ⟨e _ _ (ne n1) (by kernel_rfl) y1, e _ _ (ne n2) (by kernel_rfl) y2, e _ _ (ne n3) (by kernel_rfl) y3, e _ _ (ne n4) (by kernel_rfl) y4, e _ _ (ne n5) ?_ y5, e _ _ (ne n6) rfl y6, e _ _ (ne n7) rfl y7, e _ _ (ne n8) rfl y8, e _ _ (ne n9) rfl y9⟩
  unfold ctlO
  split <;> kernel_rfl
/-- a socket that is told apart from the list that is made -/
def OkS (K : PySem.W.Frag) (Dk oa : Addr) (o : OptD) (H : Hp) (y : SkX) : Prop := ∀ H3, (∀ b v, b ≠ Dk → hkind v = 0 → H b = some v → H3 b = some v) → KAt K H3 y.x.s y.x.sd y.x.A.e y.k ∧ EndOK K H3 oa o y.x.A y.d
theorem OkS.mono {Dk oa : Addr} {o : OptD} {H H' : Hp} {y : SkX} (h : OkS K Dk oa o H y) (e : ∀ b v, b ≠ Dk → hkind v = 0 → H b = some v → H' b = some v) : OkS K Dk oa o H' y := fun H3 e3 => h H3 fun b v n k hb => e3 b v n k (e b v n k hb)
def OkP (K : PySem.W.Frag) (Dk : Addr) (H : Hp) (q : PkX) : Prop := ∀ H3, (∀ b v, b ≠ Dk → hkind v = 0 → H b = some v → H3 b = some v) → PkOK K H3 q.p q.dx q.oc q.a q.t q.ns
theorem OkP.mono {Dk : Addr} {H H' : Hp} {q : PkX} (h : OkP K Dk H q) (e : ∀ b v, b ≠ Dk → hkind v = 0 → H b = some v → H' b = some v) : OkP K Dk H' q := fun H3 e3 => h H3 fun b v n k hb => e3 b v n k (e b v n k hb)
theorem nodup_take {α : Type} {l : List α} (h : l.Nodup) {i : Nat} (hi : i < l.length) {x : α} (hx : x ∈ l.take i) : x ≠ l[i] := by
  obtain ⟨j, hj, rfl⟩ := List.mem_take_iff_getElem.mp hx
  exact List.pairwise_iff_getElem.mp h j i (by omega) hi (by omega)
/-- what a loaded host is told by -/
structure SameD (ks ks' : List SkX) (qs qs' : List PkX) : Prop where
  k : ks'.map (fun y => (y.k, y.d)) = ks.map fun y => (y.k, y.d)
  q : qs'.map (fun q => (q.a, q.t, q.ns)) = qs.map fun q => (q.a, q.t, q.ns)
theorem SameD.codes {ks ks' : List SkX} {qs qs' : List PkX} (s : SameD ks ks' qs qs') (g : HD) (o : OptD) (ls : List (Int × Int)) : codesN g o ls ks' qs' = codesN g o ls ks qs := by
  have l1 : ks'.length = ks.length := by simpa using congrArg List.length s.k
  have l2 : qs'.length = qs.length := by simpa using congrArg List.length s.q
  have m1 : ks'.map (fun y => sockN y.k o y.d) = ks.map fun y => sockN y.k o y.d := by
    have := congrArg (List.map fun z : SkD × EndD => sockN z.1 o z.2) s.k
    simpa [List.map_map, Function.comp_def] using this
  have m2 : qs'.map (fun q => pkN q.a q.t q.ns) = qs.map fun q => pkN q.a q.t q.ns := by
    have := congrArg (List.map fun z : Int × Int × List Int => pkN z.1 z.2.1 z.2.2) s.q
    simpa [List.map_map, Function.comp_def] using this
  unfold codesN
  rw [l1, l2, m1, m2]
def RLoad (K : PySem.W.Frag) (g : HD) (o : OptD) (ls : List (Int × Int)) (ks : List SkX) (qs : List PkX) (H : Hp) (Q : VK) : Prop := ∀ (B : HA) ks' qs' H', H B.h = none → H B.oa = none → H B.P = none → B.h ≠ B.P → Same H H' → FullOK K H' B g o ls ks' qs' → SameD ks ks' qs qs' → Q (.ref B.h) H'
def spLoad (K : PySem.W.Frag) : Sp := fun vs H Q _ => ∃ (g : HD) (o : OptD) (ls : List (Int × Int)) (ks : List SkX) (qs : List PkX), vs = [.str (textS (codesN g o ls ks qs))] ∧ o.Ok ∧ (ls.map (·.1)).Nodup ∧ ls.length ≤ 100 ∧ ks.length ≤ 100 ∧ qs.length ≤ 100 ∧ (∀ y ∈ ks, y.d.octs.length ≤ 900 ∧ ∃ z, y.d.alarm = .int z) ∧ (∀ q ∈ qs, q.ns.length ≤ 900) ∧
  (∀ c ∈ codesN g o ls ks qs, Nums c) ∧ RLoad K g o ls ks qs H Q
local macro_rules | `(tactic| walk_at "s1") => `(tactic| first
  | (show spNumber _ _ _ _ _; refine' u_Number ?k1 ?k2 ?k3 ?k4 ?k5; (case k1 => walk_at "look"); (case k2 => walk_at "look"); (case k3 => assumption); (case k4 => assumption))
  | (show spFinishR _ _ _ _ _; refine' u_FinishR ?k1 ?k2 ?k3 ?k4; (case k1 => walk_at "look"); (case k2 => walk_at "look"); (case k3 => assumption))
  | ((with_reducible show RRd _ _ _ _ _ _ _ _ _ _); intro t9 H9 e9 h9 d9 l9))
abbrev N_load_host : List Str := ["text", "lines", "head", "address", "host", "sizes", "_"]
theorem sc_load_host : FnScope N_load_host ["text"] (defScope s_load_host) := ⟨rfl, rfl, rfl, by decide +kernel, rfl, by decide +kernel, by decide +kernel⟩
theorem fo_load_host (W : Wld K mg) : ∃ fd, FnOk P w K mg base CX0 10 (pl_load_host.ad K) fd ["text"] (spLoad K) ∧ FunD K "load_host" "load_host" (defArgs s_load_host) (defBody s_load_host) (defScope s_load_host) [] [] (pl_load_host.ad K) fd := by
  obtain ⟨fd, F⟩ := W.d_load_host
  refine ⟨fd, F.ok sc_load_host (fun vs H Q E h => ?_) (fun cdv A outer s H vs Q E hr h => ?_), F⟩
  · obtain ⟨g, o, ls, ks, qs, rfl, ok, nd, l1, l2, l3, l4, l5, hc, q⟩ := h; rfl
  · obtain ⟨g, o, ls, ks, qs, rfl, ok, nd, l1, l2, l3, l4, l5, hc, q⟩ := h
    have hu := hu_of hr
    refine ⟨_, PSs.nox (pss_cons (ps_set (i := 1) sc_load_host.nd rfl (Or.inr rfl) (pe_mk (ok_LineReader_make (P := P) (K := K) W) (hr.mono (by decide)) (by rfl) (pa_cons (pv 0) pa_nil)))
      (pss_cons (ps_if (PW.pt (pw_or (pt_cmpR op_lt (pe_callB call_len_seq (by rfl) W.f_len boot_len (pa_cons (pe_get W.c_LineReader W.n_LineReader_lines RLineReader.l_lines (pv 1)) pa_nil)) pe_int (nomark _)) (pw_or1 (pt_cmpR op_ne (pe_ix ix_list (pe_get W.c_LineReader W.n_LineReader_lines RLineReader.l_lines (pv 1)) pe_int (fun _ _ => rfl)) (pe_gstr rfl W.i_TITLE) (nomark _))))) (pss_one ps_never) pss_nil)
      (pss_cons (ps_put W.c_LineReader W.n_LineReader_at RLineReader.p_at_ RLineReader.len (pv 1) pe_int)
      (pss_cons (ps_set (i := 2) sc_load_host.nd rfl (Or.inr rfl) (pe_mt0 (ok_LineReader_next_code (P := P) (K := K) W) (hr.mono (by decide)) (pv 1)))
      (pss_cons (ps_set (i := 3) sc_load_host.nd rfl (Or.inl rfl) (pe_mt0 (ok_CodeReader_number (P := P) (K := K) W) (hr.mono (by decide)) (pv 2)))
      (pss_cons (ps_set (i := 4) sc_load_host.nd rfl (Or.inr rfl) (pe_mk (ok_Host_make (P := P) (K := K) W) (hr.mono (by decide)) (by rfl) (pa_cons (pv 3) (pa_cons (pe_fn (ok_read_options (P := P) (K := K) W) (hr.mono (by decide)) (by rfl) (pa_cons (pv 2) pa_nil)) pa_nil))))
      (pss_cons (ps_put W.c_Host W.n_Host_counter RHost.p_counter RHost.len (pv 4) (pe_mt0 (ok_CodeReader_number (P := P) (K := K) W) (hr.mono (by decide)) (pv 2)))
      (pss_cons (ps_put W.c_Host W.n_Host_now RHost.p_now RHost.len (pv 4) (pe_mt0 (ok_CodeReader_number (P := P) (K := K) W) (hr.mono (by decide)) (pv 2)))
      (pss_cons (ps_setLc (i := 5) (own := [("_", 6)]) (g := gName 6) (tt := tYes) rfl sc_load_host.nd rfl rfl (sw_true rfl rfl rfl (by decide +kernel)) (pi_range1 rfl W.f_range (pa_cons pe_int pa_nil)) (blkOk_by (own := [("_", 6)]) (N := N_load_host) (sc := defScope s_load_host) (by decide +kernel)) (fun _ _ _ _ _ => pg_name (i := 6) sc_load_host.nd rfl (Or.inl rfl)) (fun _ _ _ _ _ => pts_nil) (fun _ _ _ _ _ => (pe_mt0 (ok_CodeReader_number (P := P) (K := K) W) (hr.mono (by decide)) (pv 2))))
      (pss_cons (ps_expr (pe_mt0 (ok_CodeReader_finish (P := P) (K := K) W) (hr.mono (by decide)) (pv 2)))
      (pss_cons (ps_for PassesOwn.never rfl (pi_range1 rfl W.f_range (pa_cons (pe_ix ix_list (pv 5) pe_int (fun _ _ => rfl)) pa_nil)) (pg_name (i := 6) sc_load_host.nd rfl (Or.inl rfl)) (pss_one (ps_expr (pe_fn (ok_read_listener (P := P) (K := K) W) (hr.mono (by decide)) (by rfl) (pa_cons (pe_mt0 (ok_LineReader_next_code (P := P) (K := K) W) (hr.mono (by decide)) (pv 1)) (pa_cons (pe_get W.c_Host W.n_Host__listeners RHost.l_listeners (pv 4)) pa_nil))))))
      (pss_cons (ps_put W.c_Host W.n_Host__sockets RHost.p_sockets RHost.len (pv 4) (pe_lc (own := [("_", 6)]) (g := gName 6) (tt := tYes) rfl sc_load_host.nd (pi_range1 rfl W.f_range (pa_cons (pe_ix ix_list (pv 5) pe_int (fun _ _ => rfl)) pa_nil)) (blkOk_by (own := [("_", 6)]) (N := N_load_host) (sc := defScope s_load_host) (by decide +kernel)) (fun _ _ _ _ _ => pg_name (i := 6) sc_load_host.nd rfl (Or.inl rfl)) (fun _ _ _ _ _ => pts_nil) (fun _ _ _ _ _ => (pe_fn (ok_read_socket (P := P) (K := K) W) (hr.mono (by decide)) (by rfl) (pa_cons (pe_mt0 (ok_LineReader_next_code (P := P) (K := K) W) (hr.mono (by decide)) (pv 1)) (pa_cons (pe_get W.c_Host W.n_Host_options RHost.l_options (pv 4)) pa_nil))))))
      (pss_cons (ps_put W.c_Host W.n_Host__packets RHost.p_packets RHost.len (pv 4) (pe_lc (own := [("_", 6)]) (g := gName 6) (tt := tYes) rfl sc_load_host.nd (pi_range1 rfl W.f_range (pa_cons (pe_ix ix_list (pv 5) pe_int (fun _ _ => rfl)) pa_nil)) (blkOk_by (own := [("_", 6)]) (N := N_load_host) (sc := defScope s_load_host) (by decide +kernel)) (fun _ _ _ _ _ => pg_name (i := 6) sc_load_host.nd rfl (Or.inl rfl)) (fun _ _ _ _ _ => pts_nil) (fun _ _ _ _ _ => (pe_fn (ok_read_packet (P := P) (K := K) W) (hr.mono (by decide)) (by rfl) (pa_cons (pe_mt0 (ok_LineReader_next_code (P := P) (K := K) W) (hr.mono (by decide)) (pv 1)) pa_nil)))))
      (pss_cons (ps_if (PW.pt (pw_or (pt_cmpR op_ne (pe_op op_add (pe_get W.c_LineReader W.n_LineReader_at RLineReader.l_at_ (pv 1)) pe_int) (pe_callB call_len_seq (by rfl) W.f_len boot_len (pa_cons (pe_get W.c_LineReader W.n_LineReader_lines RLineReader.l_lines (pv 1)) pa_nil)) (nomark _)) (pw_or1 (pt_cmpR op_ne (pe_ix ix_list (pe_get W.c_LineReader W.n_LineReader_lines RLineReader.l_lines (pv 1)) (pe_get W.c_LineReader W.n_LineReader_at RLineReader.l_at_ (pv 1)) (fun _ _ => rfl)) pe_str (nomark _))))) (pss_one ps_never) pss_nil)
      (pss_one (ps_ret (pv 4))))))))))))))))), ?_⟩
    have hcl : (codesN g o ls ks qs).length ≤ 301 := by simp [codesN]; omega
    have hcl2 : (codesN g o ls ks qs).length = 1 + ls.length + ks.length + qs.length := by simp [codesN]; omega
    have htl := text_len hc hcl
    walk_at "s"
    rename_i l ldx fl fld nld
    refine u_LRdI (by walk_at "look") htl ?_
    rw [text_split hc]
    intro lst H1 flst nlst e1 h1 hlst
    have h1 : LRd K H1 l ldx lst 0 := h1
    generalize hcs : codesN g o ls ks qs = cs at hc hcl hcl2 htl hlst
    have c0 : cs[0]? = some (headN g o ls.length ks.length qs.length) := by rw [← hcs]; rfl
    walk_at "s"
    have hll := lines_len cs
    refine br_f (decide_eq_false (by simp; omega)) ?_
    walk_at "s"
    refine' c_ixL (v := .str titleS) (p := lst) (xs := (linesS cs).map V.str) ?k1 ?k2 ?k3
    case k1 => walk_at "look"
    case k2 => exact atI_nat (j := 0) rfl
    refine c_c (c_rNe rfl (c_bl (br_f (by decide +kernel) ?_)))
    walk_at "s"
    refine u_Next (i := 1) (zs := linesS cs) (c := headN g o ls.length ks.length qs.length) upd_same ?_ nlst (lines_at c0) (by omega) (hc _ (List.mem_of_getElem? c0)) (by simp [headN]) ?_
    · walk_at "look"
    intro p dx nl H2 fp fnl npn e2 h2 rd2 hn2
    have h2 : LRd K H2 l ldx lst 2 := h2
    have hd0 : (headN g o ls.length ks.length qs.length).drop 0 = g.addr :: (optN o ++ (g.ctr :: g.now :: ([(ls.length : Int), (ks.length : Int), (qs.length : Int)] ++ []))) := by simp [headN]
    walk_at "s"
    rename_i t3 H3 e3 rd3 dr3 le3
    refine u_ROpt rd3 (by walk_at "look") npn dr3 ok ?_
    intro oa od t4 H4 foa e4 rd4 dr4 ho4
    walk_at "s"
    rename_i hh hdx fhh fhdx nhh
    refine u_HostI (by walk_at "look") ?_
    intro L S PP H5 fL fS fP nL nS nP nLS nLP nSP e5 h5 hL5 hS5 hP5
    have h5 : H5 hh = some (.ins (He.ga K "Host") hdx (RHost.fs ⟨.int g.addr, .ref oa, .int 0, .int 0, .ref L, .ref S, .ref PP⟩)) := h5
    have npn2 : nl ≠ p := npn
    have fhh5 : H4 hh = none := fhh
    have R : Rs K [p, hh] H5 H5 p dx nl _ (headN g o ls.length ks.length qs.length) t4 _ := ⟨kp_refl, by walk_at "look", by walk_at "look", dr4⟩
    have A : Rap [p, hh] p hh nl := ⟨mem0, mem1, npn, by walk_at "ne", by walk_at "ne"⟩
    walk_at "s"
    rename_i t6 H6 R6 h6 k6 t7 H7 R7 h7 k7 Dl fD
    refine c_lcNums [(ls.length : Int), (ks.length : Int), (qs.length : Int)] (by rfl) (by show 3 ≤ 1000; decide) R7.rd R7.nl npn R7.dr fD ?_ ?_ ?_
    · exact fun _ => rfl
    · exact fun _ => rfl
    intro t8 H8 e8 rd8 dr8 hD8
    have ee8 : ∀ b u, H b = some u → H8 b = some u := fun b u h => by walk_at "look"
    have hl8 : LRd K H8 l ldx lst 2 := by walk_at "look"
    have hlst8 : H8 lst = some (.lst ((linesS cs).map V.str)) := by walk_at "look"
    have ho8 : OAt K H8 oa od o := by walk_at "look"
    have hh8 : H8 hh = some (.ins (He.ga K "Host") hdx (RHost.fs ⟨.int g.addr, .ref oa, .int g.ctr, .int g.now, .ref L, .ref S, .ref PP⟩)) := by walk_at "look"
    have hL8 : H8 L = some (.dK []) := by walk_at "look"
    have nl8 : H8 nl = _ := e8 _ _ R7.nl (fun z => npn (List.mem_singleton.mp z))
    have goh : H hh = none := by walk_at "fresh"
    have goo : H oa = none := by walk_at "fresh"
    have goL : H L = none := by walk_at "fresh"
    walk_at "s"
    have nlL : l ≠ L := ne_of hl8 hL8 (by intro z; cases z)
    have nhL : hh ≠ L := ne_of hh8 hL8 (by intro z; cases z)
    have nhl : hh ≠ l := kind_ne hh8 hl8 (by rw [kindH, kindL]; decide)
    have nDl : Dl ≠ l := ne_of hD8 hl8 (by intro z; cases z)
    have nDL : Dl ≠ L := ne_of hD8 hL8 (by intro z; cases z)
    have nlL2 : lst ≠ L := ne_of hlst8 hL8 (by intro z; cases z)
    clear R R6 R7 k6 k7 e8 h6 h7 e5 e4 e3 e2
    refine c_loopR (n := ls.length) (by omega) (fun i σ H' => (∃ v, σ = [some (.str (textS cs)), some (.ref l), some (.ref p), some (.int g.addr), some (.ref hh), some (.ref Dl), v]) ∧ Kp [l, L] H8 H' ∧ LRd K H' l ldx lst ((2 + i : Nat) : Int) ∧ H' L = some (.dK (lsV (ls.take i)))) ?_ ?_ ?_
    · exact ⟨⟨none, rfl⟩, kp_refl, hl8, hL8⟩
    · rintro i σ H' hi ⟨⟨v, rfl⟩, kk, hl9, hL9⟩
      have hlst9 : H' lst = _ := kk _ _ hlst8 (not_cons nlst (not_cons nlL2 (not_nil _)))
      have hh9 : H' hh = _ := kk _ _ hh8 (not_cons nhl (not_cons nhL (not_nil _)))
      have hg : ls[i]? = some ls[i] := List.getElem?_eq_getElem hi
      have ci : cs[1 + i]? = some [ls[i].1, ls[i].2] := by
        rw [← hcs]
        unfold codesN
        rw [List.append_assoc, List.append_assoc, List.getElem?_append_right (by simp), List.getElem?_append_left (by simp; omega), List.getElem?_map]
        simp [hg]
      walk_at "s"
      refine u_Next (i := 2 + i) (zs := linesS cs) (c := [ls[i].1, ls[i].2]) hl9 hlst9 nlst (by have := lines_at ci; rwa [show 1 + i + 1 = 2 + i by omega] at this) (by omega) (hc _ (List.mem_of_getElem? ci)) (by simp) ?_
      intro p2 dx2 nl2 G1 fp2 fnl2 npn2 f1 hl2 rd2 hn2
      walk_at "s"
      have nLl : L ≠ l := nlL.symm
      have hL10 : G1 L = _ := f1 _ _ hL9 (fun z => nLl (List.mem_singleton.mp z))
      refine u_RLis (a := ls[i].1) (b := ls[i].2) (ls := ls.take i) rd2 hn2 npn2 hL10 (by simp; omega) (fun q hq => ?_) ?_
      · have hm : q.1 ∈ (ls.map (·.1)).take i := by rw [← List.map_take]; exact List.mem_map_of_mem hq
        have := nodup_take nd (by simpa using hi) hm
        simpa using this
      intro G2 f2 hL11
      have hl3 : LRd K G2 l ldx lst (((2 + i : Nat) : Int) + 1) := f2 _ _ hl2 (not_cons (ne_of_none hl9 fp2) (not_cons nlL (not_nil _)))
      rw [show (((2 + i : Nat) : Int) + 1) = ((2 + (i + 1) : Nat) : Int) by omega] at hl3
      refine ⟨⟨_, rfl⟩, fun b v hb hm => ?_, hl3, ?_⟩
      · have hb1 := kk b v hb hm
        refine f2 b v (f1 b v hb1 (fun z => hm (by rw [List.mem_singleton.mp z]; exact mem0))) ?_
        exact not_cons (ne_of_none hb1 fp2) (not_cons (fun z => hm (by rw [z]; exact mem1)) (not_nil _))
      · rw [hL11, List.take_add_one, hg]
        rfl
    · rintro σ H9 ⟨⟨v, rfl⟩, kk, hl9, hL9⟩
      rw [List.take_length] at hL9
      have hlst9 : H9 lst = some (.lst ((linesS cs).map V.str)) := kk _ _ hlst8 (not_cons nlst (not_cons nlL2 (not_nil _)))
      have hh9 : H9 hh = some (.ins (He.ga K "Host") hdx (RHost.fs ⟨.int g.addr, .ref oa, .int g.ctr, .int g.now, .ref L, .ref S, .ref PP⟩)) := kk _ _ hh8 (not_cons nhl (not_cons nhL (not_nil _)))
      have hD9 : H9 Dl = some (.lst (nis [(ls.length : Int), (ks.length : Int), (qs.length : Int)])) := kk _ _ hD8 (not_cons nDl (not_cons nDL (not_nil _)))
      have nol : oa ≠ l := kind_ne ho8 hl8 (by rw [kindL, show hkind (.ins (He.ga K "Options") od (ROptions.fs o.r)) = 0 by kernel_rfl]; decide)
      have noL : oa ≠ L := ne_of ho8 hL8 (by intro z; cases z)
      have ho9 : OAt K H9 oa od o := kk _ _ ho8 (not_cons nol (not_cons noL (not_nil _)))
      have ee9 : ∀ b u, H b = some u → b ≠ l → b ≠ L → H9 b = some u := fun b u h n1 n2 => kk _ _ (ee8 b u h) (not_cons n1 (not_cons n2 (not_nil _)))
      clear kk hh8 hD8 hlst8 ho8 hL8 hl8
      walk_at "s"
      rename_i Dk fDk
      refine c_lcR (n := ks.length) (by omega) (by omega) (fun i ys H' => Kp [l] H9 H' ∧ LRd K H' l ldx lst ((2 + ls.length + i : Nat) : Int) ∧ ∃ ks' : List SkX, ys = ks'.map (fun y => .ref y.x.s) ∧ ks'.map (fun y => (y.k, y.d)) = (ks.take i).map (fun y => (y.k, y.d)) ∧ ∀ y ∈ ks', OkS K Dk oa o H' y) ?_ ?_ ?_ ?_
      · exact ⟨fun b v hb hm => upd_app hb (ne_of_none hb fDk), upd_app hl9 (ne_of_none hl9 fDk), [], rfl, rfl, fun y hy => by cases hy⟩
      · exact fun _ => rfl
      · rintro i ys H' hi ⟨kk, hl10, ks', rfl, hk1, hk2⟩ hD hln
        have hlst10 : H' lst = _ := kk _ _ hlst9 (fun z => nlst (List.mem_singleton.mp z))
        have hh10 : H' hh = _ := kk _ _ hh9 (fun z => nhl (List.mem_singleton.mp z))
        have ho10 : OAt K H' oa od o := kk _ _ ho9 (fun z => nol (List.mem_singleton.mp z))
        have hg : ks[i]? = some ks[i] := List.getElem?_eq_getElem hi
        have hm := List.mem_of_getElem? hg
        have ci : cs[1 + ls.length + i]? = some (sockN ks[i].k o ks[i].d) := by
          rw [← hcs]
          unfold codesN
          rw [List.append_assoc, List.append_assoc, List.getElem?_append_right (by simp; omega), List.getElem?_append_right (by simp; omega), List.getElem?_append_left (by simp; omega), List.getElem?_map]
          simp only [List.length_cons, List.length_nil, List.length_map]
          rw [show 1 + ls.length + i - (0 + 1) - ls.length = i by omega, hg]
          rfl
        obtain ⟨yl, z, hz⟩ := l4 _ hm
        have nel := endN_len o ks[i].d (by omega)
        show tCall (spRSock K) [] E0 _ _ H' _
        walk_at "s"
        refine u_Next (i := 2 + ls.length + i) (zs := linesS cs) (c := sockN ks[i].k o ks[i].d) hl10 hlst10 nlst (by have := lines_at ci; rwa [show 1 + ls.length + i + 1 = 2 + ls.length + i by omega] at this) (by omega) (hc _ (List.mem_of_getElem? ci)) (by simp [sockN]) ?_
        intro p2 dx2 nl2 G1 fp2 fnl2 npn2 f1 hl2 rd2 hn2
        have ho11 : OAt K G1 oa od o := f1 _ _ ho10 (fun z => nol (List.mem_singleton.mp z))
        walk_at "s"
        refine u_RSock (od := od) (o := o) (k := ks[i].k) (d := ks[i].d) (z := z) rd2 hn2 npn2 ho11 ok rfl hz (by omega) ?_
        intro x G2 nx f2 hK hE
        have hDG1 : G1 Dk = _ := f1 _ _ hD (not_cons (ne_of hD hl10 (by intro z; cases z)) (not_nil _))
        have hDG2 : G2 Dk = _ := f2 _ _ hDG1 (not_cons (ne_of_none hD fp2) (not_nil _))
        have nlDk : l ≠ Dk := ne_of_none hl9 fDk
        have hl3 : LRd K G2 l ldx lst (((2 + ls.length + i : Nat) : Int) + 1) := f2 _ _ hl2 (not_cons (ne_of_none hl10 fp2) (not_nil _))
        rw [show (((2 + ls.length + i : Nat) : Int) + 1) = ((2 + ls.length + (i + 1) : Nat) : Int) by omega] at hl3
        have st0 : ∀ b v, b ≠ l → H' b = some v → G2 b = some v := fun b v n h => f2 b v (f1 b v h (not_cons n (not_nil _))) (not_cons (ne_of_none h fp2) (not_nil _))
        refine LcE.mk (by omega) hDG2 hln ⟨fun b v hb hm => upd_app (st0 b v (fun z => hm (by rw [z]; exact mem0)) (kk b v hb hm)) (ne_of_none hb fDk), upd_app hl3 nlDk, ks' ++ [⟨x, ks[i].k, ks[i].d⟩], by simp, ?_, ?_⟩
        · rw [List.map_append, hk1, List.take_add_one, hg, List.map_append]
          rfl
        · intro y hy
          rcases List.mem_append.mp hy with hy | hy
          · exact (hk2 y hy).mono fun b v n k0 h => upd_app (st0 b v (kind_ne h hl10 (by rw [kindL, k0]; decide)) h) n
          · obtain rfl := List.mem_singleton.mp hy
            intro H3 e3
            have e4 : ∀ b v, b ≠ Dk → hkind v = 0 → G2 b = some v → H3 b = some v := fun b v n k h => e3 b v n k (upd_app h n)
            exact ⟨e4 _ _ (ne_of_none hDG1 nx.s).symm (by kernel_rfl) hK, hE.pkd nx.A hDG1 e4⟩
      · rintro ys H10 ⟨kk, hl10, ks', rfl, hk1, hk2⟩ hD hln
        rw [List.take_length] at hk1
        have hlst10 : H10 lst = some (.lst ((linesS cs).map V.str)) := kk _ _ hlst9 (not_cons nlst (not_nil _))
        have hh10 : H10 hh = some (.ins (He.ga K "Host") hdx (RHost.fs ⟨.int g.addr, .ref oa, .int g.ctr, .int g.now, .ref L, .ref S, .ref PP⟩)) := kk _ _ hh9 (not_cons nhl (not_nil _))
        have hD10 : H10 Dl = some (.lst (nis [(ls.length : Int), (ks.length : Int), (qs.length : Int)])) := kk _ _ hD9 (not_cons nDl (not_nil _))
        have hL10 : H10 L = some (.dK (lsV ls)) := kk _ _ hL9 (not_cons nlL.symm (not_nil _))
        have ho10 : OAt K H10 oa od o := kk _ _ ho9 (not_cons nol (not_nil _))
        have ee10 : ∀ b u, H b = some u → H10 b = some u := fun b u h => kk _ _ (ee9 b u h (ne_of_none h fl) (ne_of_none h goL)) (not_cons (ne_of_none h fl) (not_nil _))
        have hkk : ∀ y ∈ ks', KAt K H10 y.x.s y.x.sd y.x.A.e y.k ∧ EndOK K H10 oa o y.x.A y.d := fun y hy => hk2 y hy H10 fun b v _ _ h => h
        clear kk hk2 hh9 hD9 hL9 ho9 ee9 hl9 hlst9 fDk
        walk_at "s"
        generalize hJ : upd H10 hh _ = J
        have kJ : Pk H10 J := by
          rw [← hJ]
          exact fun b u hb k0 => upd_app hb (kind_ne hb hh10 (by rw [kindH, k0]; decide))
        have hlJ : LRd K J l ldx lst ((2 + ls.length + ks.length : Nat) : Int) := by
          rw [← hJ]
          exact upd_app hl10 nhl.symm
        have hhJ : J hh = some (.ins (He.ga K "Host") hdx (RHost.fs ⟨.int g.addr, .ref oa, .int g.ctr, .int g.now, .ref L, .ref Dk, .ref PP⟩)) := by
          rw [← hJ]
          exact upd_same
        have hlstJ := kJ _ _ hlst10 rfl
        have hLJ := kJ _ _ hL10 rfl
        have hDJ := kJ _ _ hD rfl
        have hoJ := oAt_pk ho10 kJ
        have eeJ : ∀ b u, H b = some u → J b = some u := by
          rw [← hJ]
          exact fun b u h => upd_app (ee10 b u h) (ne_of_none h goh)
        clear hJ
        have hDlJ := kJ _ _ hD10 rfl
        walk_at "s"
        rename_i Dp fDp
        refine c_lcR (n := qs.length) (by omega) (by omega) (fun i ys H' => Kp [l] J H' ∧ LRd K H' l ldx lst ((2 + ls.length + ks.length + i : Nat) : Int) ∧ ∃ qs' : List PkX, ys = qs'.map (fun q => .ref q.p) ∧ qs'.map (fun q => (q.a, q.t, q.ns)) = (qs.take i).map (fun q => (q.a, q.t, q.ns)) ∧ ∀ q ∈ qs', OkP K Dp H' q) ?_ ?_ ?_ ?_
        · exact ⟨fun b v hb hm => upd_app hb (ne_of_none hb fDp), upd_app hlJ (ne_of_none hlJ fDp), [], rfl, rfl, fun y hy => by cases hy⟩
        · exact fun _ => rfl
        · rintro i ys H' hi ⟨kk, hl11, qs', rfl, hq1, hq2⟩ hD2 hln2
          have hlst11 : H' lst = _ := kk _ _ hlstJ (not_cons nlst (not_nil _))
          have hg : qs[i]? = some qs[i] := List.getElem?_eq_getElem hi
          have hm := List.mem_of_getElem? hg
          have ci : cs[1 + ls.length + ks.length + i]? = some (pkN qs[i].a qs[i].t qs[i].ns) := by
            rw [← hcs]
            unfold codesN
            rw [List.getElem?_append_right (by simp; omega), List.getElem?_map]
            simp only [List.length_append, List.length_cons, List.length_nil, List.length_map]
            rw [show 1 + ls.length + ks.length + i - (0 + 1 + ls.length + ks.length) = i by omega, hg]
            rfl
          have yl := l5 _ hm
          show tCall (spRPkt K) [] E0 _ _ H' _
          walk_at "s"
          refine u_Next (i := 2 + ls.length + ks.length + i) (zs := linesS cs) (c := pkN qs[i].a qs[i].t qs[i].ns) hl11 hlst11 nlst (by have := lines_at ci; rwa [show 1 + ls.length + ks.length + i + 1 = 2 + ls.length + ks.length + i by omega] at this) (by omega) (hc _ (List.mem_of_getElem? ci)) (by simp [pkN]) ?_
          intro p2 dx2 nl2 G1 fp2 fnl2 npn2 f1 hl2 rd2 hn2
          walk_at "s"
          refine u_RPkt rd2 hn2 npn2 rfl (by omega) ?_
          intro x xd oc G2 fx foc f2 hP
          have hDG1 : G1 Dp = _ := f1 _ _ hD2 (not_cons (ne_of hD2 hl11 (by intro z; cases z)) (not_nil _))
          have hDG2 : G2 Dp = _ := f2 _ _ hDG1 (not_cons (ne_of_none hD2 fp2) (not_nil _))
          have nlDp : l ≠ Dp := ne_of_none hlJ fDp
          have hl3 : LRd K G2 l ldx lst (((2 + ls.length + ks.length + i : Nat) : Int) + 1) := f2 _ _ hl2 (not_cons (ne_of_none hl11 fp2) (not_nil _))
          rw [show (((2 + ls.length + ks.length + i : Nat) : Int) + 1) = ((2 + ls.length + ks.length + (i + 1) : Nat) : Int) by omega] at hl3
          have st0 : ∀ b v, b ≠ l → H' b = some v → G2 b = some v := fun b v n h => f2 b v (f1 b v h (not_cons n (not_nil _))) (not_cons (ne_of_none h fp2) (not_nil _))
          refine LcE.mk (by omega) hDG2 hln2 ⟨fun b v hb hm => upd_app (st0 b v (fun z => hm (by rw [z]; exact mem0)) (kk b v hb hm)) (ne_of_none hb fDp), upd_app hl3 nlDp, qs' ++ [⟨x, xd, oc, qs[i].a, qs[i].t, qs[i].ns⟩], by simp, ?_, ?_⟩
          · rw [List.map_append, hq1, List.take_add_one, hg, List.map_append]
            rfl
          · intro y hy
            rcases List.mem_append.mp hy with hy | hy
            · exact (hq2 y hy).mono fun b v n k0 h => upd_app (st0 b v (kind_ne h hl11 (by rw [kindL, k0]; decide)) h) n
            · obtain rfl := List.mem_singleton.mp hy
              intro H3 e3
              exact ⟨e3 _ _ (ne_of_none hDG1 fx).symm (by kernel_rfl) (upd_app hP.hp (ne_of_none hDG1 fx).symm), e3 _ _ (ne_of_none hDG1 foc).symm rfl (upd_app hP.ho (ne_of_none hDG1 foc).symm)⟩
        · rintro ys H11 ⟨kk, hl11, qs', rfl, hq1, hq2⟩ hDp hln2
          rw [List.take_length] at hq1
          have hlst11 : H11 lst = some (.lst ((linesS cs).map V.str)) := kk _ _ hlstJ (not_cons nlst (not_nil _))
          have hh11 : H11 hh = some (.ins (He.ga K "Host") hdx (RHost.fs ⟨.int g.addr, .ref oa, .int g.ctr, .int g.now, .ref L, .ref Dk, .ref PP⟩)) := kk _ _ hhJ (not_cons nhl (not_nil _))
          have pk11 : Pk J H11 := Pk.kp kk fun b hb => by
            have eb := List.mem_singleton.mp hb
            subst eb
            exact ⟨_, hlJ, by rw [kindL]; decide⟩
          have nhlst : hh ≠ lst := (ne_of hlst11 hh11 (by intro z; cases z)).symm
          have nlh : lst ≠ hh := nhlst.symm
          walk_at "s"
          refine br_f (nd_f (congrArg V.int (by simp; omega))) ?_
          walk_at "s"
          refine' c_ixL (v := .str Str.empty) (p := lst) (xs := (linesS cs).map V.str) ?m1 ?m2 ?m3
          case m1 => walk_at "look"
          case m2 => exact atI_nat (by rw [show 2 + ls.length + ks.length + qs.length = cs.length + 1 by omega, List.getElem?_map, lines_end]; rfl)
          refine c_c (c_rNe rfl (c_bl (br_f (by decide +kernel) ?_)))
          walk_at "s"
          generalize hJ2 : upd H11 hh _ = J2
          have kJ2 : Pk H11 J2 := by
            rw [← hJ2]
            exact fun b u hb k0 => upd_app hb (kind_ne hb hh11 (by rw [kindH, k0]; decide))
          have hhJ2 : J2 hh = some (.ins (He.ga K "Host") hdx (RHost.fs ⟨.int g.addr, .ref oa, .int g.ctr, .int g.now, .ref L, .ref Dk, .ref Dp⟩)) := by
            rw [← hJ2]
            exact upd_same
          have eeJ2 : ∀ b u, H b = some u → J2 b = some u := by
            rw [← hJ2]
            exact fun b u h => upd_app (kk _ _ (eeJ b u h) (not_cons (ne_of_none h fl) (not_nil _))) (ne_of_none h goh)
          have pkf := pk11.trans kJ2
          refine q ⟨hh, hdx, oa, od, L, Dk, Dp⟩ ks' qs' J2 goh goo (fresh_of fDp (eeJ _)) (ne_of_none hhJ fDp) eeJ2 ⟨nhL, hhJ2, oAt_pk hoJ pkf, pkf _ _ hLJ rfl, pkf _ _ hDJ rfl, kJ2 _ _ hDp rfl, fun y hy => ?_, fun y hy => ?_⟩ ⟨hk1, hq1⟩
          · obtain ⟨a1, a2⟩ := hkk y hy
            exact ⟨kAt_pk a1 (kJ.trans pkf), a2.pk (kJ.trans pkf)⟩
          · exact (hq2 y hy H11 fun b v _ _ h => h).pk kJ2
theorem ok_load_host (W : Wld K mg) : GFn P w K mg base "load_host" 10 ["text"] (spLoad K) := by
  obtain ⟨fd, F1, F⟩ := fo_load_host (P := P) (w := w) (base := base) W
  exact ⟨⟨_, fd, F1, W.g_load_host, F.kp, F.bindsN fun _ _ _ _ _ _ us hl => match us, hl with | [_], _ => rfl⟩⟩
theorem u_Load {g : HD} {o : OptD} {ls : List (Int × Int)} {ks : List SkX} {qs : List PkX} {H : Hp} {Q : VK} (ok : o.Ok) (nd : (ls.map (·.1)).Nodup) (l1 : ls.length ≤ 100) (l2 : ks.length ≤ 100) (l3 : qs.length ≤ 100) (l4 : ∀ y ∈ ks, y.d.octs.length ≤ 900 ∧ ∃ z, y.d.alarm = .int z) (l5 : ∀ q ∈ qs, q.ns.length ≤ 900)
    (hc : ∀ c ∈ codesN g o ls ks qs, Nums c) (q : RLoad K g o ls ks qs H Q) : spLoad K [.str (textS (codesN g o ls ks qs))] H Q E0 := ⟨g, o, ls, ks, qs, rfl, ok, nd, l1, l2, l3, l4, l5, hc, q⟩
end
end
/-! part D30 -/
section
set_option maxHeartbeats 4000000
open PySem PySem.Spec PyProof.Rows L2 ClX TL

/-! ### != by an own == -/
section
variable {prog : Program} {w : World} {A : Around} {E : Value → Shared → Prop} {s : Shared} {K : PySem.W.Frag} {x y C f : Addr} {ox oy : Obj} {od od' : Option Obj}
theorem objNe_K (X : K.In s.heap) (I : PySem.W.InstAt s.heap x ox C od) (hs : PySem.W.findIn K (.ref C) "__eq__" = some (some (.ref f))) (hf : PySem.W.isFn K (.ref f) = true) (hu : A.units < cLine) {Q : Fin → Shared → Prop}
    (hcall : wpAny (model prog w) A (call (.ref f) [.ref x, .ref y]) (fun v s' => ∃ b, v = .bool b ∧ Q (.done (.ret (.bool (!b)))) s') E s) :
    wpAny (model prog w) A (Builtin.«object.__ne__» ⟨[.ref x, .ref y], []⟩) Q E s := by
  unfold Builtin.«object.__ne__»
  repeat (first
    | with_reducible refine wpAny_cRoomFor hu ?_
    | (refine wpAny_bind (m := callSpecialIfBound? (.ref x) (Str.ofString "__eq__") [.ref y])
        (PySem.W.ifBound_K X I hs hf (wpAny_mono hcall (fun r s' hr => by
          obtain ⟨b, rfl, hq⟩ := hr
          repeat (first | exact hq | exact wpAny_pure hq | exact wpAny_truthy_bool hq | (refine wpAny_bind (m := truthy (.bool _)) (wpAny_truthy_bool ?_)) | wp_step)) fun _ _ e => e)))
    | wp_step)
theorem tryNe_K (X : K.In s.heap) (I : PySem.W.InstAt s.heap x ox C od) (hne : PySem.W.findIn K (.ref C) "__ne__" = some (some (.builtin "object.__ne__"))) (hs : PySem.W.findIn K (.ref C) "__eq__" = some (some (.ref f))) (hf : PySem.W.isFn K (.ref f) = true)
    (hm : PySem.W.mroIn K C (.type "object") = some true) (hu : A.units + 1 < cLine) {Q : Option Value → Shared → Prop}
    (hcall : wpAny (model prog w) A.in1 (call (.ref f) [.ref x, .ref y]) (fun v s' => ∃ b, v = .bool b ∧ Q (some (.bool (!b))) s') E s) :
    wpAny (model prog w) A (tryCompare (.ref x) "__ne__" (.ref y)) Q E s := by
  unfold tryCompare
  refine wpAny_bind ?_
  have cc : wpAny (model prog w) A (call (.builtin "object.__ne__") [.ref x, .ref y]) (fun v s' => ∃ b, v = .bool b ∧ Q (some (.bool b)) s') E s := by
    refine wpAny_call (codeAny_call_builtin F.cmp_object.ne.plain F.cmpEntry_ne (PySem.W.check_slot F.cmpKind_ne F.cmpSplit_ne (I.type.andThen (PySem.W.looks_mroIn X hm)) (F.cmpArgs_ne _ _) ?_))
    refine objNe_K (A := A.in1) X I hs hf hu (wpAny_mono hcall (fun v s' hv => ?_) fun _ _ e => e)
    obtain ⟨b, rfl, hq⟩ := hv
    exact ⟨b, rfl, ⟨!b, rfl, hq⟩⟩
  simp only [callSpecialIfBound?, bindSpecialIfBound?]
  refine wpAny_holding (wpAny_bind (wpAny_bind (wpAny_bind (I.type.here ((PySem.W.looks_findIn X hne).here ?_)))))
  refine wpAny_bind (wpAny_askSetting (wpAny_ite ?_))
  have fin : wpAny (model prog w) A (call (.builtin "object.__ne__") ([.ref x] ++ [.ref y]) >>= fun v => pure (some v)) (fun r s' => wpAny (model prog w) A (match r with
      | some .notImplemented | none => pure none
      | some v => pure (some v)) Q E s') E s := wpAny_bind (wpAny_mono cc (fun v s' h' => by
    obtain ⟨b, rfl, hq⟩ := h'
    exact wpAny_pure (wpAny_pure hq)) fun _ _ h' => h')
  have hb := F.cmp_object.ne.bind (.ref x)
  split
  · exact wpAny_bind (by rw [hb]; exact wpAny_pure (wpAny_pure (by exact fin)))
  · exact wpAny_tryCatch (wpAny_bind (by rw [hb]; exact wpAny_pure (wpAny_pure (by exact fin))))
theorem richNe_K (X : K.In s.heap) (I : PySem.W.InstAt s.heap x ox C od) (J : PySem.W.InstAt s.heap y oy C od') (hne : PySem.W.findIn K (.ref C) "__ne__" = some (some (.builtin "object.__ne__"))) (hs : PySem.W.findIn K (.ref C) "__eq__" = some (some (.ref f))) (hf : PySem.W.isFn K (.ref f) = true)
    (hm : PySem.W.mroIn K C (.type "object") = some true) (hu : A.units + 1 < cLine) {Q : Value → Shared → Prop}
    (hcall : wpAny (model prog w) A.in1 (call (.ref f) [.ref x, .ref y]) (fun v s' => ∃ b, v = .bool b ∧ Q (.bool (!b)) s') E s) :
    wpAny (model prog w) A (richCompare .NotEq (.ref x) (.ref y)) Q E s := by
  unfold richCompare
  simp only [oneThing_ref]
  refine wpAny_holding ?_
  refine wpAny_bind (wpAny_cRoomFor (Nat.lt_of_succ_lt hu) ?_)
  rw [cmpInfo_NotEq]
  dsimp only
  refine wpAny_bind (I.type.here ?_)
  refine wpAny_bind (J.type.here ?_)
  rw [show (Value.ref C != Value.ref C) = false from by simp]
  simp only [Bool.false_eq_true, if_false]
  refine wpAny_bind (wpAny_pure ?_)
  simp only [Bool.false_eq_true, if_false]
  refine wpAny_bind (tryNe_K X I hne hs hf hm hu (wpAny_mono hcall (fun v s' hv => ?_) fun _ _ e => e))
  obtain ⟨b, rfl, hq⟩ := hv
  first | exact ⟨b, rfl, wpAny_pure hq⟩ | exact ⟨b, rfl, wpAny_pure (wpAny_pure hq)⟩
end
section
variable {X : Cx}
def rNeX (C : Addr) (R : Addr → Addr → Hp → Prop) : R2 := fun x y H Q => DIns C R x y H ∧ ∀ H', Ext H H' → Q (.bl false) H'
theorem op_neX {C : Addr} {n : Nat} {ps : List Str} {R : Addr → Addr → Hp → Prop} (M : MFn X.prog X.w X.K X.mg X.base C "__eq__" n ps [] (spEq R)) (hne : PySem.W.findIn X.K (.ref C) "__ne__" = some (some (.builtin "object.__ne__")))
    (hm : PySem.W.mroIn X.K C (.type "object") = some true) (hr : Room (n + 1) X.A) : OpR X (compareOp .NotEq) (rNeX C R) := by
  obtain ⟨f, fd, ds, c, m, F1, hb, hd⟩ := M.ex
  cases hd
  intro pins s σ H x y v u Q I rx ry hq
  obtain ⟨⟨a, b, dx, dy, fs, gs, rfl, rfl, ha, hb', hR⟩, q⟩ := hq
  cases rx
  cases ry
  show wpAny (model X.prog X.w) X.A (richCompare .NotEq (.ref a) (.ref b)) (EP X pins σ Q) X.xe s
  obtain ⟨mA, J, _⟩ := ins_get I.hok ha
  obtain ⟨mB, J', _⟩ := ins_get I.hok hb'
  obtain ⟨od, J, _⟩ := J.look
  obtain ⟨od', J', _⟩ := J'.look
  refine richNe_K I.kIn J J' hne m.at_ m.fn hm (hu_of hr) ?_
  have hsp : spEq R [.ref a, .ref b] H (fun v H' => v = .bl true ∧ Ext H H') E0 := ⟨a, b, rfl, hR, fun H' e => ⟨rfl, e⟩⟩
  have e0 : Env0 X.prog X.w X.K X.mg X.base X.A.in1 X.stack s H := by
    have e := I.env0
    exact ⟨e.frames, e.mod, e.bs, e.bsz, e.funs, e.frf, e.hok, e.bare⟩
  have hl := F1.len _ _ _ _ hsp
  have r2 : Vals [V.ref a, V.ref b] [Value.ref a, Value.ref b] := .cons rfl (.cons rfl .nil)
  refine wpAny_call (codeAny_mono (F1.run X.A.in1 X.stack s H ⟨[.ref a, .ref b], []⟩ [.ref a, .ref b] [.ref a, .ref b] _ E0 hr.in1 e0 (by
    have := hb s [.ref a, .ref b] I.kIn (by simpa using hl)
    simpa using this) r2 hsp) fun r s' hq => ?_)
  cases r with
  | error e => exact pass0 pins σ H s e s' I hq
  | ok fl =>
    cases fl with
    | ret w =>
      obtain ⟨z, H', I', rz, ez, ex⟩ := I.after hq
      subst ez
      cases rz
      exact ⟨true, rfl, .bl false, H', I', rfl, q H' ex⟩
    | next => exact False.elim hq
    | brk => exact False.elim hq
    | cont => exact False.elim hq
theorem op_eqX {C : Addr} {n : Nat} {ps : List Str} {R : Addr → Addr → Hp → Prop} (M : MFn X.prog X.w X.K X.mg X.base C "__eq__" n ps [] (spEq R)) (hR : ∀ a b H H', Ext H H' → R a b H → R a b H') (hr : Room (n + 1) X.A) :
    OpR X (compareOp .Eq) (rEqG (DList (DIns C R))) := by
  obtain ⟨f, fd, ds, c, m, F1, hb, hd⟩ := M.ex
  cases hd
  exact op_eqG (rcG_list (mon_ins hR) (eqG_ins F1 m.at_ m.fn hb pass0)) hr
end
/-! ### whole numbers in lists -/
section
variable {K : PySem.W.Frag} {H : Hp}
theorem dpAll_nis : ∀ (ns : List Int), DpAll K H (nis ns) (ns.map PyData.int)
  | [] => .nil
  | i :: r => .cons (.int i) (dpAll_nis r)
theorem eqv_ints (ns : List Int) : PyData.eqv (.list (ns.map PyData.int)) (.list (ns.map PyData.int)) = true :=
  SeqAt.eqv_refl _ (SeqAt.canLay_of_shaped (PySem.W.shaped_ints ns))
theorem c_eqL {a b : Addr} {ns : List Int} {Q : VK} (h1 : H a = some (.lst (nis ns))) (h2 : H b = some (.lst (nis ns))) (k : Q (.bl true) H) : rEqD K (.ref a) (.ref b) H Q :=
  ⟨_, _, .lst (SqL.of h1) (dpAll_nis ns), .lst (SqL.of h2) (dpAll_nis ns), PySem.W.shaped_ints ns, PySem.W.shaped_ints ns, by rw [eqv_ints]; exact k⟩
theorem c_neL {a b : Addr} {ns : List Int} {Q : VK} (h1 : H a = some (.lst (nis ns))) (h2 : H b = some (.lst (nis ns))) (k : Q (.bl false) H) : rNeD K (.ref a) (.ref b) H Q :=
  ⟨_, _, .lst (SqL.of h1) (dpAll_nis ns), .lst (SqL.of h2) (dpAll_nis ns), PySem.W.shaped_ints ns, PySem.W.shaped_ints ns, by rw [eqv_ints]; exact k⟩
theorem c_catT {p q : Addr} {xs ys : List V} {Q : VK} (h1 : H p = some (.tup xs)) (h2 : H q = some (.tup ys)) (n1 : xs ≠ []) (n2 : ys ≠ []) (l : xs.length + ys.length ≤ sizeLine) (k : ∀ r, H r = none → Q (.ref r) (upd H r (.tup (xs ++ ys)))) : rCatT K (.ref p) (.ref q) H Q :=
  ⟨p, q, xs, ys, rfl, rfl, SqT.of h1, SqT.of h2, n1, l, fun e => absurd e n2, fun _ => k⟩
end
section
variable {P : Program} [PrOk P] {w : World} {K : PySem.W.Frag} {mg : Str → Option Value} {base : Heap}
def PkEq (K : PySem.W.Frag) (a b : Addr) (H : Hp) : Prop := ∃ dx dx' oc oc' s t ns, PkOK K H a dx oc s t ns ∧ PkOK K H b dx' oc' s t ns
theorem PkEq.ext {a b : Addr} {H H' : Hp} (e : Ext H H') (h : PkEq K a b H) : PkEq K a b H' := by
  obtain ⟨dx, dx', oc, oc', s, t, ns, h1, h2⟩ := h
  exact ⟨dx, dx', oc, oc', s, t, ns, ⟨e _ _ h1.hp, e _ _ h1.ho⟩, ⟨e _ _ h2.hp, e _ _ h2.ho⟩⟩
local macro_rules | `(tactic| walk_at "s1") => `(tactic| first
  | ((with_reducible refine' c_eqL ?k1 ?k2 ?k3); (case k1 => walk_at "look"); (case k2 => walk_at "look")))
abbrev N_Packet___eq__ : List Str := ["self", "other"]
theorem sc_Packet___eq__ : FnScope N_Packet___eq__ ["self", "other"] (defScope s_Packet___eq__) := ⟨rfl, rfl, rfl, by decide +kernel, rfl, by decide +kernel, by decide +kernel⟩
theorem fo_Packet___eq__ (W : Wld K mg) : ∃ fd, FnOk P w K mg base CX0 1 (pl_Packet___eq__.ad K) fd ["self", "other"] (spEq (PkEq K)) ∧ FunD K "__eq__" "Packet.__eq__" (defArgs s_Packet___eq__) (defBody s_Packet___eq__) (defScope s_Packet___eq__) [] [] (pl_Packet___eq__.ad K) fd := by
  obtain ⟨fd, F⟩ := W.d_Packet___eq__
  refine ⟨fd, F.ok sc_Packet___eq__ (fun vs H Q E h => ?_) (fun cdv A outer s H vs Q E hr h => ?_), F⟩
  · obtain ⟨a, b, rfl, ⟨dx, dx', oc, oc', s, t, ns, ⟨z1, z2⟩, ⟨z3, z4⟩⟩, q⟩ := h; rfl
  · obtain ⟨a, b, rfl, ⟨dx, dx', oc, oc', s, t, ns, ⟨z1, z2⟩, ⟨z3, z4⟩⟩, q⟩ := h
    have hu := hu_of hr
    refine ⟨_, PSs.nox (pss_one (ps_ret (pe_and (pe_callB call_isi (by rfl) W.f_isinstance bt_isinstance (pa_cons (pv 1) (pa_cons (pe_gref rfl W.g_Packet) pa_nil))) (pe_and (pe_cmpR op_eq (pe_get W.c_Packet W.n_Packet_sender RPacket.l_sender (pv 0)) (pe_get W.c_Packet W.n_Packet_sender RPacket.l_sender (pv 1)) (nomark _)) (pe_and (pe_cmpR op_eq (pe_get W.c_Packet W.n_Packet_target RPacket.l_target (pv 0)) (pe_get W.c_Packet W.n_Packet_target RPacket.l_target (pv 1)) (nomark _)) (pe_and (pe_cmpR (op_eqD hr.units) (pe_get W.c_Packet W.n_Packet_octets RPacket.l_octets (pv 0)) (pe_get W.c_Packet W.n_Packet_octets RPacket.l_octets (pv 1)) (nomark _)) (pe_one (pe_cmpR op_eq (pe_get W.c_Packet W.n_Packet_marked RPacket.l_marked (pv 0)) (pe_get W.c_Packet W.n_Packet_marked RPacket.l_marked (pv 1)) (nomark _))))))))), ?_⟩
    walk_at "s"
    refine c_isi (b := true) (tyo W (.inr (.inr (.inl rfl))) (by walk_at "look")) W.is_Packet_Packet ?_
    walk_at "s"
    refine br_t (decide_eq_true rfl) ?_
    walk_at "s"
    refine br_t (decide_eq_true rfl) ?_
    walk_at "s"
    exact lk_v (q H Ext.rfl') rfl
theorem ok_Packet___eq__ (W : Wld K mg) : MFn P w K mg base (He.ga K "Packet") "__eq__" 1 ["self", "other"] [] (spEq (PkEq K)) := by
  obtain ⟨fd, F1, F⟩ := fo_Packet___eq__ (P := P) (w := w) (base := base) W
  exact ⟨⟨_, fd, [], W.c_Packet, W.m_Packet___eq__, F1, F.bindsN fun _ _ _ _ _ _ us hl => match us, hl with | [_, _], _ => rfl, .nil⟩⟩
theorem tp_eq {H : Hp} {p : Addr} {xs ys : List V} (h : H p = some (.tup xs)) (e : xs = ys) : H p = some (.tup ys) := e ▸ h
def RVals (o : OptD) (H : Hp) (Q : VK) : Prop := ∀ p H', Same H H' → H' p = some (.tup [.int o.mss, .int o.room, .int o.life, .int o.pace, .int o.tries, .int o.mn, .int o.mx, .int o.dly, .int o.alive, .bl o.nagle, .str o.ctl]) → Q (.ref p) H'
def spValues (K : PySem.W.Frag) : Sp := fun vs H Q _ => ∃ (oa od : Addr) (o : OptD), vs = [.ref oa] ∧ OAt K H oa od o ∧ RVals o H Q
local macro_rules | `(tactic| walk_at "s1") => `(tactic| first
  | ((with_reducible refine' c_catT ?k1 ?k2 ?k3 ?k4 ?k5 ?k6); (case k1 => walk_at "look"); (case k2 => walk_at "look"); (case k3 => exact List.cons_ne_nil _ _); (case k4 => exact List.cons_ne_nil _ _); (case k5 => walk_at "sz"); intro p9 f9))
abbrev N_Options__values : List Str := ["self", "sizes", "times"]
theorem sc_Options__values : FnScope N_Options__values ["self"] (defScope s_Options__values) := ⟨rfl, rfl, rfl, by decide +kernel, rfl, by decide +kernel, by decide +kernel⟩
theorem fo_Options__values (W : Wld K mg) : ∃ fd, FnOk P w K mg base CX0 1 (pl_Options__values.ad K) fd ["self"] (spValues K) ∧ FunD K "_values" "Options._values" (defArgs s_Options__values) (defBody s_Options__values) (defScope s_Options__values) [] [] (pl_Options__values.ad K) fd := by
  obtain ⟨fd, F⟩ := W.d_Options__values
  refine ⟨fd, F.ok sc_Options__values (fun vs H Q E h => ?_) (fun cdv A outer s H vs Q E hr h => ?_), F⟩
  · obtain ⟨oa, od, o, rfl, z1, q⟩ := h; rfl
  · obtain ⟨oa, od, o, rfl, z1, q⟩ := h
    have hu := hu_of hr
    refine ⟨_, PSs.nox (pss_cons (ps_set (i := 1) sc_Options__values.nd rfl (Or.inl rfl) (pe_tup (pa_cons (pe_get W.c_Options W.n_Options_mss ROptions.l_mss (pv 0)) (pa_cons (pe_get W.c_Options W.n_Options_room ROptions.l_room (pv 0)) (pa_cons (pe_get W.c_Options W.n_Options_life ROptions.l_life (pv 0)) (pa_cons (pe_get W.c_Options W.n_Options_pace ROptions.l_pace (pv 0)) (pa_cons (pe_get W.c_Options W.n_Options_tries ROptions.l_tries (pv 0)) pa_nil)))))))
      (pss_cons (ps_set (i := 2) sc_Options__values.nd rfl (Or.inl rfl) (pe_tup (pa_cons (pe_get W.c_Options W.n_Options_min_rto ROptions.l_min_rto (pv 0)) (pa_cons (pe_get W.c_Options W.n_Options_max_rto ROptions.l_max_rto (pv 0)) (pa_cons (pe_get W.c_Options W.n_Options_ack_delay ROptions.l_ack_delay (pv 0)) (pa_cons (pe_get W.c_Options W.n_Options_keep_alive ROptions.l_keep_alive (pv 0)) pa_nil))))))
      (pss_one (ps_ret (pe_op op_catT (pe_op op_catT (pv 1) (pv 2)) (pe_tup (pa_cons (pe_get W.c_Options W.n_Options_nagle ROptions.l_nagle (pv 0)) (pa_cons (pe_get W.c_Options W.n_Options_control ROptions.l_control (pv 0)) pa_nil)))))))), ?_⟩
    walk_at "s"
    exact q _ _ (by walk_at "same") (tp_eq (by walk_at "look") (by rfl))
theorem ok_Options__values (W : Wld K mg) : MFn P w K mg base (He.ga K "Options") "_values" 1 ["self"] [] (spValues K) := by
  obtain ⟨fd, F1, F⟩ := fo_Options__values (P := P) (w := w) (base := base) W
  exact ⟨⟨_, fd, [], W.c_Options, W.m_Options__values, F1, F.bindsN fun _ _ _ _ _ _ us hl => match us, hl with | [_], _ => rfl, .nil⟩⟩
theorem u_Values {oa od : Addr} {o : OptD} {H : Hp} {Q : VK} (h : OAt K H oa od o) (q : RVals o H Q) : spValues K [.ref oa] H Q E0 := ⟨oa, od, o, rfl, h, q⟩
def OpEq (K : PySem.W.Frag) (a b : Addr) (H : Hp) : Prop := ∃ da db o, OAt K H a da o ∧ OAt K H b db o
theorem c_eqT {a b : Addr} {o : OptD} {H : Hp} {Q : VK} (h1 : H a = some (.tup [.int o.mss, .int o.room, .int o.life, .int o.pace, .int o.tries, .int o.mn, .int o.mx, .int o.dly, .int o.alive, .bl o.nagle, .str o.ctl]))
    (h2 : H b = some (.tup [.int o.mss, .int o.room, .int o.life, .int o.pace, .int o.tries, .int o.mn, .int o.mx, .int o.dly, .int o.alive, .bl o.nagle, .str o.ctl])) (k : Q (.bl true) H) : rEqD K (.ref a) (.ref b) H Q := by
  have dp : DpAll K H [.int o.mss, .int o.room, .int o.life, .int o.pace, .int o.tries, .int o.mn, .int o.mx, .int o.dly, .int o.alive, .bl o.nagle, .str o.ctl] [.int o.mss, .int o.room, .int o.life, .int o.pace, .int o.tries, .int o.mn, .int o.mx, .int o.dly, .int o.alive, .bool o.nagle, .str o.ctl] :=
    .cons (.int _) (.cons (.int _) (.cons (.int _) (.cons (.int _) (.cons (.int _) (.cons (.int _) (.cons (.int _) (.cons (.int _) (.cons (.int _) (.cons (.bl _) (.cons (.str _) .nil))))))))))
  have sh : SeqAt.shaped (.tuple [.int o.mss, .int o.room, .int o.life, .int o.pace, .int o.tries, .int o.mn, .int o.mx, .int o.dly, .int o.alive, .bool o.nagle, .str o.ctl]) = true := by
    show (PyData.canLay0 _ && decide (PyData.depth _ ≤ 64)) = true
    rw [Bool.and_eq_true]
    have so : PyData.strOk o.ctl = true := by
      unfold OptD.ctl
      cases o.cubic <;> decide +kernel
    exact ⟨by simp [PyData.canLay0, PyData.canLayAll0, so], decide_eq_true (by simp [PyData.depth, PyData.depthAll])⟩
  refine ⟨_, _, .tup (SqT.of h1) dp, .tup (SqT.of h2) dp, sh, sh, lk_v k ?_⟩
  simp [PyData.eqv, PyData.eqvAll]
local macro_rules | `(tactic| walk_at "s1") => `(tactic| first
  | (show spValues _ _ _ _ _; refine' u_Values ?k1 ?k2; (case k1 => walk_at "look"))
  | ((with_reducible show RVals _ _ _); intro t9 H9 e9 h9)
  | ((with_reducible refine' c_eqT ?k1 ?k2 ?k3); (case k1 => walk_at "look"); (case k2 => walk_at "look")))
abbrev N_Options___eq__ : List Str := ["self", "other"]
theorem sc_Options___eq__ : FnScope N_Options___eq__ ["self", "other"] (defScope s_Options___eq__) := ⟨rfl, rfl, rfl, by decide +kernel, rfl, by decide +kernel, by decide +kernel⟩
theorem fo_Options___eq__ (W : Wld K mg) : ∃ fd, FnOk P w K mg base CX0 2 (pl_Options___eq__.ad K) fd ["self", "other"] (spEq (OpEq K)) ∧ FunD K "__eq__" "Options.__eq__" (defArgs s_Options___eq__) (defBody s_Options___eq__) (defScope s_Options___eq__) [] [] (pl_Options___eq__.ad K) fd := by
  obtain ⟨fd, F⟩ := W.d_Options___eq__
  refine ⟨fd, F.ok sc_Options___eq__ (fun vs H Q E h => ?_) (fun cdv A outer s H vs Q E hr h => ?_), F⟩
  · obtain ⟨a, b, rfl, ⟨da, db, o, z1, z2⟩, q⟩ := h; rfl
  · obtain ⟨a, b, rfl, ⟨da, db, o, z1, z2⟩, q⟩ := h
    have hu := hu_of hr
    refine ⟨_, PSs.nox (pss_one (ps_ret (pe_and (pe_callB call_isi (by rfl) W.f_isinstance bt_isinstance (pa_cons (pv 1) (pa_cons (pe_gref rfl W.g_Options) pa_nil))) (pe_one (pe_cmpR (op_eqD hr.units) (pe_mt0 (ok_Options__values (P := P) (K := K) W) (hr.mono (by decide)) (pv 0)) (pe_mt0 (ok_Options__values (P := P) (K := K) W) (hr.mono (by decide)) (pv 1)) (nomark _)))))), ?_⟩
    walk_at "s"
    refine c_isi (b := true) (tyo W (.inr (.inr (.inr rfl))) (by walk_at "look")) W.is_Options_Options ?_
    walk_at "s"
    rename_i t1 H1 e1 h1 t2 H2 e2 h2
    exact q _ (e1.trans e2)
theorem ok_Options___eq__ (W : Wld K mg) : MFn P w K mg base (He.ga K "Options") "__eq__" 2 ["self", "other"] [] (spEq (OpEq K)) := by
  obtain ⟨fd, F1, F⟩ := fo_Options___eq__ (P := P) (w := w) (base := base) W
  exact ⟨⟨_, fd, [], W.c_Options, W.m_Options___eq__, F1, F.bindsN fun _ _ _ _ _ _ us hl => match us, hl with | [_, _], _ => rfl, .nil⟩⟩
end
end
/-! part D31 -/
section
set_option maxHeartbeats 1000000
open PySem PySem.Spec PyProof.Rows L2 ClX TL

section
variable {P : Program} [PrOk P] {w : World} {K : PySem.W.Frag} {mg : Str → Option Value} {base : Heap}
theorem c_lenS {p : Addr} {xs : List V} {H : Hp} {Rq : List V → Prop} (h : SqL K H p xs) (k : Rq xs) : ∃ p' ys, [V.ref p] = [.ref p'] ∧ (SqL K H p' ys ∨ SqT K H p' ys) ∧ Rq ys := ⟨p, xs, rfl, .inl h, k⟩
theorem c_ixS {p : Addr} {xs : List V} {i : Int} {v : V} {H : Hp} {Q : VK} (h : SqL K H p xs) (e : atI xs i = some v) (k : Q v H) : rIxL K (.ref p) (.int i) H Q := ⟨p, xs, i, v, rfl, rfl, h, e, k⟩
theorem at_mod {ns : List Int} {k : Nat} (h : 0 < ns.length) : ∃ n, atI (nis ns) ((k : Int) % ((nis ns).length : Int)) = some (.int n) := by
  have h1 : k % ns.length < ns.length := Nat.mod_lt _ h
  refine ⟨ns[k % ns.length], ?_⟩
  have e : ((k : Int) % ((nis ns).length : Int)) = ((k % ns.length : Nat) : Int) := by simp
  rw [e]
  exact atI_nat (by simp [h1])
def RRows (H : Hp) (Q : VK) : Prop := ∀ p (rs : List Int) H', H p = none → Same H H' → H' p = some (.lst (nis rs)) → rs.length = 6 → (∀ r ∈ rs, 0 ≤ r) → Q (.ref p) H'
def spRows (K : PySem.W.Frag) : Sp := fun vs H Q _ => ∃ (a : Addr) (ns : List Int), vs = [.ref a, .int 6] ∧ SqL K H a (nis ns) ∧ RRows H Q
abbrev N__law_rows : List Str := ["_law_script", "_law_count", "_law_rows_here", "_law_k", "_law_cell"]
theorem sc__law_rows : FnScope N__law_rows ["_law_script", "_law_count"] (defScope s__law_rows) := ⟨rfl, rfl, rfl, by decide +kernel, rfl, by decide +kernel, by decide +kernel⟩
theorem fo__law_rows (W : Wld K mg) : ∃ fd, FnOk P w K mg base CX0 1 (pl__law_rows.ad K) fd ["_law_script", "_law_count"] (spRows K) ∧ FunD K "_law_rows" "_law_rows" (defArgs s__law_rows) (defBody s__law_rows) (defScope s__law_rows) [] [] (pl__law_rows.ad K) fd := by
  obtain ⟨fd, F⟩ := W.d__law_rows
  refine ⟨fd, F.ok sc__law_rows (fun vs H Q E h => ?_) (fun cdv A outer s H vs Q E hr h => ?_), F⟩
  · obtain ⟨a, ns, rfl, z1, q⟩ := h; rfl
  · obtain ⟨a, ns, rfl, z1, q⟩ := h
    have hu := hu_of hr
    refine ⟨_, PSs.nox (pss_cons (ps_set (i := 2) sc__law_rows.nd rfl (Or.inl rfl) (pe_lst pa_nil))
      (pss_cons (ps_for PassesOwn.never rfl (pi_range1 rfl W.f_range (pa_cons (pv 1) pa_nil)) (pg_name (i := 3) sc__law_rows.nd rfl (Or.inl rfl)) (pss_cons (ps_set (i := 4) sc__law_rows.nd rfl (Or.inl rfl) pe_int)
      (pss_cons (ps_if (pt_cmpR op_gt (pe_callB call_len_seq (by rfl) W.f_len boot_len (pa_cons (pv 0) pa_nil)) pe_int (nomark _)) (pss_one (ps_set (i := 4) sc__law_rows.nd rfl (Or.inl rfl) (pe_callTy call_int1 (by rfl) W.f_int bt_int (pa_cons (pe_ix ix_list (pv 0) (pe_op op_mod (pe_callTy call_int1 (by rfl) W.f_int bt_int (pa_cons (pv 3) pa_nil)) (pe_callB call_len_seq (by rfl) W.f_len boot_len (pa_cons (pv 0) pa_nil))) (fun _ _ => rfl)) pa_nil)))) pss_nil)
      (pss_cons (ps_if (pt_cmpR op_lt (pv 4) pe_int (nomark _)) (pss_one (ps_set (i := 4) sc__law_rows.nd rfl (Or.inl rfl) (pe_op op_sub pe_int (pe_op op_mul pe_int (pv 4))))) pss_nil)
      (pss_cons (ps_if (PW.pt (pw_or (pt_cmpR op_ge (pv 3) (pe_callB call_len_seq (by rfl) W.f_len boot_len (pa_cons (pv 0) pa_nil)) (nomark _)) (pw_or1 (pt_cmpR op_lt (pv 4) pe_int (nomark _))))) (pss_cons (ps_set (i := 4) sc__law_rows.nd rfl (Or.inl rfl) (pe_op op_mod (pe_callTy call_int1 (by rfl) W.f_int bt_int (pa_cons (pe_op op_add (pe_op op_mul (pe_op op_add (pe_op op_add (pv 4) (pe_op op_mul pe_int (pv 3))) pe_int) pe_int) (pe_op op_mul (pe_op op_mul (pv 3) (pv 3)) pe_int)) pa_nil)) pe_int))
      (pss_one (ps_set (i := 4) sc__law_rows.nd rfl (Or.inl rfl) (pe_op op_mod (pe_callTy call_int1 (by rfl) W.f_int bt_int (pa_cons (pe_op op_mul (pe_op op_add (pe_op op_add (pv 4) (pe_op op_mul pe_int (pv 3))) pe_int) pe_int) pa_nil)) pe_int)))) pss_nil)
      (pss_one (ps_expr (pe_bm PySem.F.plainAttrs_list PySem.F.slot_list_append PySem.F.type_list_append mt_append (pv 2) (pa_cons (pv 4) pa_nil)))))))))
      (pss_one (ps_ret (pv 2))))), ?_⟩
    walk_at "s"
    rename_i p fp
    refine c_loopR (n := 6) rfl (fun i σ H' => (∃ (u v : Option V) (rs : List Int), σ = [some (.ref a), some (.int 6), some (.ref p), u, v] ∧ Same H H' ∧ H' p = some (.lst (nis rs)) ∧ rs.length = i ∧ ∀ r ∈ rs, 0 ≤ r)) ?_ ?_ ?_
    · exact ⟨none, none, [], rfl, by walk_at "same", lk_eq (by walk_at "look") (by rfl), rfl, fun r hr => by cases hr⟩
    · rintro i σ H' hi ⟨u, v, rs, rfl, e, hp, hl, h0⟩
      have zS : SqL K H' a (nis ns) := z1.ext e
      have fin : ∀ (x : Int), 0 ≤ x → ∃ (u v : Option V) (rs' : List Int), [some (V.ref a), some (.int 6), some (.ref p), some (.int i), some (.int x)] = [some (.ref a), some (.int 6), some (.ref p), u, v] ∧ Same H (upd H' p (.lst (nis rs ++ [V.int x]))) ∧ upd H' p (.lst (nis rs ++ [V.int x])) p = some (.lst (nis rs')) ∧ rs'.length = i + 1 ∧ ∀ r ∈ rs', 0 ≤ r := fun x hx =>
        ⟨_, _, rs ++ [x], rfl, by walk_at "same", lk_eq (by walk_at "look") (by simp), by simp [hl], fun r hr => by
          rcases List.mem_append.mp hr with hr | hr
          · exact h0 r hr
          · rw [List.mem_singleton.mp hr]; exact hx⟩
      walk_at "s"
      refine c_lenS zS ?_
      walk_at "s"
      refine br_2 (fun g1 => ?_) (fun g1 => ?_)
      · have g2 : 0 < ns.length := by simpa using g1
        obtain ⟨n, hn⟩ := at_mod (k := i) g2
        walk_at "s"
        refine c_lenS zS ?_
        walk_at "s"
        refine c_rI (by show (0 : Int) < _; simp; omega) ?_
        walk_at "s"
        refine c_ixS zS hn ?_
        walk_at "s"
        refine br_2 (fun g3 => ?_) (fun g3 => ?_)
        · have g4 : n < 0 := by simpa using g3
          walk_at "s"
          refine c_lenS zS ?_
          walk_at "s"
          refine br_2 (fun g5 => ?_) (fun g5 => ?_)
          · walk_at "s"
            exact fin _ (Int.emod_nonneg _ (by decide))
          · walk_at "s"
            refine br_2 (fun g6 => ?_) (fun g6 => ?_)
            · walk_at "s"
              exact fin _ (Int.emod_nonneg _ (by decide))
            · walk_at "s"
              exact fin _ (by have := of_decide_eq_false g6; omega)
        · have g4 : ¬ n < 0 := by simpa using g3
          walk_at "s"
          refine c_lenS zS ?_
          walk_at "s"
          refine br_2 (fun g5 => ?_) (fun g5 => ?_)
          · walk_at "s"
            exact fin _ (Int.emod_nonneg _ (by decide))
          · walk_at "s"
            refine br_2 (fun g6 => ?_) (fun g6 => ?_)
            · walk_at "s"
              exact fin _ (Int.emod_nonneg _ (by decide))
            · walk_at "s"
              exact fin _ (by have := of_decide_eq_false g6; omega)
      · walk_at "s"
        refine c_lenS zS ?_
        walk_at "s"
        refine br_t (decide_eq_true ?_) ?_
        · have g2 : ¬ 0 < ns.length := by simpa using g1
          simp
          omega
        · walk_at "s"
          exact fin _ (Int.emod_nonneg _ (by decide))
    · rintro σ H' ⟨u, v, rs, rfl, e, hp, hl, h0⟩
      walk_at "s"
      exact q p rs H' fp e hp hl h0
theorem ok__law_rows (W : Wld K mg) : GFn P w K mg base "_law_rows" 1 ["_law_script", "_law_count"] (spRows K) := by
  obtain ⟨fd, F1, F⟩ := fo__law_rows (P := P) (w := w) (base := base) W
  exact ⟨⟨_, fd, F1, W.g__law_rows, F.kp, F.bindsN fun _ _ _ _ _ _ us hl => match us, hl with | [_, _], _ => rfl⟩⟩
end
end
/-! part D32 -/
section
set_option maxHeartbeats 1000000
open PySem PySem.Spec PyProof.Rows L2 ClX TL

section
variable {P : Program} [PrOk P] {w : World} {K : PySem.W.Frag} {mg : Str → Option Value} {base : Heap}
def lawO (r room : Int) (cubic : Bool) : OptD := ⟨8 + r % 200, room, 1 + r / 13 % 9, 1 + r / 17 % 3000, 1 + r / 19 % 100, 2 + r / 200 % 300, 2 + r / 200 % 300 + r / 23 % 2000, r / 29 % (2 + r / 200 % 300), r / 31 % 3 * 77, decide (V.int (r / 37 % 2) = V.int 1), cubic⟩
theorem lawO_ok {r room : Int} {cubic : Bool} (h1 : 2 * (8 + r % 200) ≤ room) (h2 : room ≤ 262144) : (lawO r room cubic).Ok := by
  have d1 : 0 ≤ r / 29 % (2 + r / 200 % 300) := Int.emod_nonneg _ (by omega)
  have d2 : r / 29 % (2 + r / 200 % 300) < 2 + r / 200 % 300 := Int.emod_lt_of_pos _ (by omega)
  have p2 : (1 + r / 17 % 3000) * ((1 + r / 13 % 9) + 1) ≤ 3000 * 10 := Int.mul_le_mul (by omega) (by omega) (by omega) (by omega)
  constructor <;> simp only [lawO] <;> omega
def RLOpt (K : PySem.W.Frag) (H : Hp) (Q : VK) : Prop := ∀ oa od (o : OptD) H', o.Ok → H oa = none → Same H H' → OAt K H' oa od o → Q (.ref oa) H'
def spLOpt (K : PySem.W.Frag) : Sp := fun vs H Q _ => ∃ r : Int, vs = [.int r] ∧ RLOpt K H Q
theorem lhead_eq (o : OptD) : ([o.r.mss, o.r.room, o.r.life, o.r.pace, o.r.tries, o.r.min_rto, o.r.max_rto] ++ [o.r.ack_delay, o.r.keep_alive, V.int (if o.nagle = true then 1 else 0)] ++ [V.int (if decide (o.r.control = V.str (Str.ofString "cubic")) = true then 1 else 0)] : List V) = nis (optN o) := by
  obtain ⟨a1, a2, a3, a4, a5, a6, a7, a8, a9, n, c⟩ := o
  cases c <;> kernel_rfl
def spLHead (K : PySem.W.Frag) : Sp := fun vs H Q _ => ∃ (oa od : Addr) (o : OptD), vs = [.ref oa] ∧ OAt K H oa od o ∧ RL (nis (optN o)) H Q
abbrev N__law_options : List Str := ["_law_row", "_law_size", "_law_least", "_law_kind", "_law_room"]
theorem sc__law_options : FnScope N__law_options ["_law_row"] (defScope s__law_options) := ⟨rfl, rfl, rfl, by decide +kernel, rfl, by decide +kernel, by decide +kernel⟩
theorem fo__law_options (W : Wld K mg) : ∃ fd, FnOk P w K mg base CX0 5 (pl__law_options.ad K) fd ["_law_row"] (spLOpt K) ∧ FunD K "_law_options" "_law_options" (defArgs s__law_options) (defBody s__law_options) (defScope s__law_options) [] [] (pl__law_options.ad K) fd := by
  obtain ⟨fd, F⟩ := W.d__law_options
  refine ⟨fd, F.ok sc__law_options (fun vs H Q E h => ?_) (fun cdv A outer s H vs Q E hr h => ?_), F⟩
  · obtain ⟨r, rfl, q⟩ := h; rfl
  · obtain ⟨r, rfl, q⟩ := h
    have hu := hu_of hr
    refine ⟨_, PSs.nox (pss_cons (ps_set (i := 1) sc__law_options.nd rfl (Or.inl rfl) (pe_op op_add pe_int (pe_op op_mod (pe_callTy call_int1 (by rfl) W.f_int bt_int (pa_cons (pv 0) pa_nil)) pe_int)))
      (pss_cons (ps_set (i := 2) sc__law_options.nd rfl (Or.inl rfl) (pe_op op_add pe_int (pe_op op_mod (pe_callTy call_int1 (by rfl) W.f_int bt_int (pa_cons (pe_op op_fdiv (pv 0) pe_int) pa_nil)) pe_int)))
      (pss_cons (ps_set (i := 3) sc__law_options.nd rfl (Or.inl rfl) pe_str)
      (pss_cons (ps_if (pt_cmpR op_eq (pe_op op_mod (pe_op op_fdiv (pv 0) pe_int) pe_int) pe_int (nomark _)) (pss_one (ps_set (i := 3) sc__law_options.nd rfl (Or.inl rfl) pe_str)) pss_nil)
      (pss_cons (ps_set (i := 4) sc__law_options.nd rfl (Or.inl rfl) (pe_op op_add (pe_op op_mul pe_int (pv 1)) (pe_op op_mod (pe_callTy call_int1 (by rfl) W.f_int bt_int (pa_cons (pe_op op_fdiv (pv 0) pe_int) pa_nil)) pe_int)))
      (pss_cons (ps_if (pt_cmpR op_eq (pe_op op_mod (pe_op op_fdiv (pv 0) pe_int) pe_int) pe_int (nomark _)) (pss_one (ps_set (i := 4) sc__law_options.nd rfl (Or.inl rfl) (pe_op op_sub pe_int (pe_op op_mod (pe_callTy call_int1 (by rfl) W.f_int bt_int (pa_cons (pe_op op_fdiv (pv 0) pe_int) pa_nil)) pe_int)))) pss_nil)
      (pss_one (ps_ret (pe_mkK0 (ok_Options_make_k (P := P) (K := K) W) (hr.mono (by decide)) (by rfl) (pk_cons (pv 1) (pk_cons (pv 4) (pk_cons (pe_op op_add pe_int (pe_op op_mod (pe_callTy call_int1 (by rfl) W.f_int bt_int (pa_cons (pe_op op_fdiv (pv 0) pe_int) pa_nil)) pe_int)) (pk_cons (pe_op op_add pe_int (pe_op op_mod (pe_callTy call_int1 (by rfl) W.f_int bt_int (pa_cons (pe_op op_fdiv (pv 0) pe_int) pa_nil)) pe_int)) (pk_cons (pe_op op_add pe_int (pe_op op_mod (pe_callTy call_int1 (by rfl) W.f_int bt_int (pa_cons (pe_op op_fdiv (pv 0) pe_int) pa_nil)) pe_int)) (pk_cons (pv 2) (pk_cons (pe_op op_add (pv 2) (pe_op op_mod (pe_callTy call_int1 (by rfl) W.f_int bt_int (pa_cons (pe_op op_fdiv (pv 0) pe_int) pa_nil)) pe_int)) (pk_cons (pe_op op_mod (pe_callTy call_int1 (by rfl) W.f_int bt_int (pa_cons (pe_op op_fdiv (pv 0) pe_int) pa_nil)) (pv 2)) (pk_cons (pe_op op_mul (pe_op op_mod (pe_callTy call_int1 (by rfl) W.f_int bt_int (pa_cons (pe_op op_fdiv (pv 0) pe_int) pa_nil)) pe_int) pe_int) (pk_cons (pe_cmpR op_eq (pe_op op_mod (pe_op op_fdiv (pv 0) pe_int) pe_int) pe_int (nomark _)) (pk_cons (pv 3) pk_nil)))))))))))))))))))), ?_⟩
    walk_at "s"
    refine br_2 (fun c1 => ?_) (fun c1 => ?_)
    · walk_at "s"
      refine br_2 (fun c2 => ?_) (fun c2 => ?_)
      · walk_at "s"
        rename_i ox od fx fd nn
        refine u_OptionsI (dx := od) (o := lawO r (262144 - r / 60000 % 150000) true) (lawO_ok (by omega) (by omega)) (by walk_at "look") ?_
        intro H5 e5 h5
        refine ⟨rfl, ?_⟩
        exact q ox od (lawO r (262144 - r / 60000 % 150000) true) H5 (lawO_ok (by omega) (by omega)) (by walk_at "fresh") (by walk_at "same") h5
      · walk_at "s"
        rename_i ox od fx fd nn
        refine u_OptionsI (dx := od) (o := lawO r (2 * (8 + r % 200) + r / 60000 % 900) true) (lawO_ok (by omega) (by omega)) (by walk_at "look") ?_
        intro H5 e5 h5
        refine ⟨rfl, ?_⟩
        exact q ox od (lawO r (2 * (8 + r % 200) + r / 60000 % 900) true) H5 (lawO_ok (by omega) (by omega)) (by walk_at "fresh") (by walk_at "same") h5
    · walk_at "s"
      refine br_2 (fun c2 => ?_) (fun c2 => ?_)
      · walk_at "s"
        rename_i ox od fx fd nn
        refine u_OptionsI (dx := od) (o := lawO r (262144 - r / 60000 % 150000) false) (lawO_ok (by omega) (by omega)) (by walk_at "look") ?_
        intro H5 e5 h5
        refine ⟨rfl, ?_⟩
        exact q ox od (lawO r (262144 - r / 60000 % 150000) false) H5 (lawO_ok (by omega) (by omega)) (by walk_at "fresh") (by walk_at "same") h5
      · walk_at "s"
        rename_i ox od fx fd nn
        refine u_OptionsI (dx := od) (o := lawO r (2 * (8 + r % 200) + r / 60000 % 900) false) (lawO_ok (by omega) (by omega)) (by walk_at "look") ?_
        intro H5 e5 h5
        refine ⟨rfl, ?_⟩
        exact q ox od (lawO r (2 * (8 + r % 200) + r / 60000 % 900) false) H5 (lawO_ok (by omega) (by omega)) (by walk_at "fresh") (by walk_at "same") h5
theorem ok__law_options (W : Wld K mg) : GFn P w K mg base "_law_options" 5 ["_law_row"] (spLOpt K) := by
  obtain ⟨fd, F1, F⟩ := fo__law_options (P := P) (w := w) (base := base) W
  exact ⟨⟨_, fd, F1, W.g__law_options, F.kp, F.bindsN fun _ _ _ _ _ _ us hl => match us, hl with | [_], _ => rfl⟩⟩
theorem u_LOpt {r : Int} {H : Hp} {Q : VK} (q : RLOpt K H Q) : spLOpt K [.int r] H Q E0 := ⟨r, rfl, q⟩
abbrev N__law_head : List Str := ["_law_options_here", "_law_numbers"]
theorem sc__law_head : FnScope N__law_head ["_law_options_here"] (defScope s__law_head) := ⟨rfl, rfl, rfl, by decide +kernel, rfl, by decide +kernel, by decide +kernel⟩
theorem fo__law_head (W : Wld K mg) : ∃ fd, FnOk P w K mg base CX0 1 (pl__law_head.ad K) fd ["_law_options_here"] (spLHead K) ∧ FunD K "_law_head" "_law_head" (defArgs s__law_head) (defBody s__law_head) (defScope s__law_head) [] [] (pl__law_head.ad K) fd := by
  obtain ⟨fd, F⟩ := W.d__law_head
  refine ⟨fd, F.ok sc__law_head (fun vs H Q E h => ?_) (fun cdv A outer s H vs Q E hr h => ?_), F⟩
  · obtain ⟨oa, od, o, rfl, z1, q⟩ := h; rfl
  · obtain ⟨oa, od, o, rfl, z1, q⟩ := h
    have hu := hu_of hr
    refine ⟨_, PSs.nox (pss_cons (ps_set (i := 1) sc__law_head.nd rfl (Or.inl rfl) (pe_lst (pa_cons (pe_get W.c_Options W.n_Options_mss ROptions.l_mss (pv 0)) (pa_cons (pe_get W.c_Options W.n_Options_room ROptions.l_room (pv 0)) (pa_cons (pe_get W.c_Options W.n_Options_life ROptions.l_life (pv 0)) (pa_cons (pe_get W.c_Options W.n_Options_pace ROptions.l_pace (pv 0)) (pa_cons (pe_get W.c_Options W.n_Options_tries ROptions.l_tries (pv 0)) (pa_cons (pe_get W.c_Options W.n_Options_min_rto ROptions.l_min_rto (pv 0)) (pa_cons (pe_get W.c_Options W.n_Options_max_rto ROptions.l_max_rto (pv 0)) pa_nil)))))))))
      (pss_cons (ps_set (i := 1) sc__law_head.nd rfl (Or.inl rfl) (pe_op op_cat (pv 1) (pe_lst (pa_cons (pe_get W.c_Options W.n_Options_ack_delay ROptions.l_ack_delay (pv 0)) (pa_cons (pe_get W.c_Options W.n_Options_keep_alive ROptions.l_keep_alive (pv 0)) (pa_cons (pe_callTy call_int1 (by rfl) W.f_int bt_int (pa_cons (pe_get W.c_Options W.n_Options_nagle ROptions.l_nagle (pv 0)) pa_nil)) pa_nil))))))
      (pss_one (ps_ret (pe_op op_cat (pv 1) (pe_lst (pa_cons (pe_callTy call_int1 (by rfl) W.f_int bt_int (pa_cons (pe_cmpR op_eq (pe_get W.c_Options W.n_Options_control ROptions.l_control (pv 0)) pe_str (nomark _)) pa_nil)) pa_nil))))))), ?_⟩
    walk_at "s"
    exact q _ _ (by walk_at "fresh") (by walk_at "same") (lk_eq (by walk_at "look") (lhead_eq o))
theorem ok__law_head (W : Wld K mg) : GFn P w K mg base "_law_head" 1 ["_law_options_here"] (spLHead K) := by
  obtain ⟨fd, F1, F⟩ := fo__law_head (P := P) (w := w) (base := base) W
  exact ⟨⟨_, fd, F1, W.g__law_head, F.kp, F.bindsN fun _ _ _ _ _ _ us hl => match us, hl with | [_], _ => rfl⟩⟩
theorem u_LHead {oa od : Addr} {o : OptD} {H : Hp} {Q : VK} (h : OAt K H oa od o) (q : RL (nis (optN o)) H Q) : spLHead K [.ref oa] H Q E0 := ⟨oa, od, o, rfl, h, q⟩
/-- what the law keeps of a socket -/
abbrev lendV (k : SkD) (fin ab : Bool) (a : Addr) : List (Key × V) := [(Sum.inr "port", .int k.port), (Sum.inr "peer", .int k.peer), (Sum.inr "peer_port", .int k.pp), (Sum.inr "finished", .bl fin), (Sum.inr "aborted", .bl ab), (Sum.inr "octets", .ref a), (Sum.inr "count", .int k.cnt)]
structure LEnd (H : Hp) (e a : Addr) (k : SkD) (fin ab : Bool) (os : List Int) : Prop where
  he : H e = some (.dK (lendV k fin ab a))
  ha : H a = some (.lst (nis os))
abbrev dF (o : OptD) (now : Int) (os : List Int) (fin ab : Bool) : EndD := ⟨1, os, fin, ab, .int (now + o.wait), now, now⟩
def spLEnd (K : PySem.W.Frag) : Sp := fun vs H Q _ => ∃ (oa od e a : Addr) (o : OptD) (now : Int) (k : SkD) (fin ab : Bool) (os : List Int), vs = [.ref oa, .int now, .ref e] ∧ OAt K H oa od o ∧ LEnd H e a k fin ab os ∧ os.length ≤ 900 ∧ RL (nis (endN o (dF o now os fin ab))) H Q
abbrev N__law_endpoint : List Str := ["_law_options_here", "_law_now", "_law_end", "_law_numbers", "_law_octets", "_law_wait"]
theorem sc__law_endpoint : FnScope N__law_endpoint ["_law_options_here", "_law_now", "_law_end"] (defScope s__law_endpoint) := ⟨rfl, rfl, rfl, by decide +kernel, rfl, by decide +kernel, by decide +kernel⟩
theorem fo__law_endpoint (W : Wld K mg) : ∃ fd, FnOk P w K mg base CX0 1 (pl__law_endpoint.ad K) fd ["_law_options_here", "_law_now", "_law_end"] (spLEnd K) ∧ FunD K "_law_endpoint" "_law_endpoint" (defArgs s__law_endpoint) (defBody s__law_endpoint) (defScope s__law_endpoint) [] [] (pl__law_endpoint.ad K) fd := by
  obtain ⟨fd, F⟩ := W.d__law_endpoint
  refine ⟨fd, F.ok sc__law_endpoint (fun vs H Q E h => ?_) (fun cdv A outer s H vs Q E hr h => ?_), F⟩
  · obtain ⟨oa, od, e, a, o, now, k, fin, ab, os, rfl, z1, ⟨z2, z3⟩, l1, q⟩ := h; rfl
  · obtain ⟨oa, od, e, a, o, now, k, fin, ab, os, rfl, z1, ⟨z2, z3⟩, l1, q⟩ := h
    have hu := hu_of hr
    refine ⟨_, PSs.nox (pss_cons (ps_set (i := 3) sc__law_endpoint.nd rfl (Or.inl rfl) (pe_lst (pa_cons pe_int pa_nil)))
      (pss_cons (ps_if (pt_val (pe_dget hu (pv 2) pe_str (fun _ _ => rfl))) (pss_one (ps_set (i := 3) sc__law_endpoint.nd rfl (Or.inl rfl) (pe_lst (pa_cons pe_int (pa_cons pe_int pa_nil))))) pss_nil)
      (pss_cons (ps_set (i := 4) sc__law_endpoint.nd rfl (Or.inl rfl) (pe_dget hu (pv 2) pe_str (fun _ _ => rfl)))
      (pss_cons (ps_set (i := 5) sc__law_endpoint.nd rfl (Or.inl rfl) (pe_callB (call_min2 rfl) (by rfl) W.f_min bt_min (pa_cons (pe_get W.c_Options W.n_Options_max_rto ROptions.l_max_rto (pv 0)) (pa_cons (pe_callB (call_max2 rfl) (by rfl) W.f_max bt_max (pa_cons (pe_get W.c_Options W.n_Options_min_rto ROptions.l_min_rto (pv 0)) (pa_cons (pe_op op_mul pe_int (pe_get W.c_Options W.n_Options_min_rto ROptions.l_min_rto (pv 0))) pa_nil))) pa_nil))))
      (pss_cons (ps_set (i := 3) sc__law_endpoint.nd rfl (Or.inl rfl) (pe_op op_cat (pv 3) (pe_lst (pa_cons (pe_get W.c_Options W.n_Options_mss ROptions.l_mss (pv 0)) (pa_cons pe_int pa_nil)))))
      (pss_cons (ps_set (i := 3) sc__law_endpoint.nd rfl (Or.inl rfl) (pe_op op_cat (pe_op op_cat (pe_op op_cat (pv 3) (pe_lst (pa_cons pe_int (pa_cons pe_int (pa_cons (pe_callB call_len_seq (by rfl) W.f_len boot_len (pa_cons (pv 4) pa_nil)) (pa_cons (pe_callTy call_int1 (by rfl) W.f_int bt_int (pa_cons (pe_dget hu (pv 2) pe_str (fun _ _ => rfl)) pa_nil)) (pa_cons pe_int (pa_cons pe_int (pa_cons pe_int (pa_cons pe_int (pa_cons pe_int (pa_cons (pe_callB call_len_seq (by rfl) W.f_len boot_len (pa_cons (pv 4) pa_nil)) pa_nil)))))))))))) (pv 4)) (pe_lst (pa_cons pe_int pa_nil))))
      (pss_cons (ps_set (i := 3) sc__law_endpoint.nd rfl (Or.inl rfl) (pe_op op_cat (pv 3) (pe_lst (pa_cons pe_int (pa_cons (pe_op op_add (pe_get W.c_Options W.n_Options_room ROptions.l_room (pv 0)) pe_int) (pa_cons pe_int (pa_cons pe_int (pa_cons pe_int (pa_cons pe_int pa_nil)))))))))
      (pss_cons (ps_set (i := 3) sc__law_endpoint.nd rfl (Or.inl rfl) (pe_op op_cat (pv 3) (pe_lst (pa_cons pe_int (pa_cons pe_int (pa_cons (pv 5) (pa_cons pe_int pa_nil)))))))
      (pss_cons (ps_set (i := 3) sc__law_endpoint.nd rfl (Or.inl rfl) (pe_op op_cat (pv 3) (pe_lst (pa_cons (pe_op op_mul pe_int (pe_get W.c_Options W.n_Options_mss ROptions.l_mss (pv 0))) (pa_cons pe_int (pa_cons pe_int (pa_cons pe_int (pa_cons pe_int (pa_cons pe_int pa_nil)))))))))
      (pss_cons (ps_set (i := 3) sc__law_endpoint.nd rfl (Or.inl rfl) (pe_op op_cat (pv 3) (pe_lst (pa_cons pe_int (pa_cons (pe_op op_add (pv 1) (pv 5)) (pa_cons (pv 1) (pa_cons pe_int (pa_cons pe_int (pa_cons pe_int (pa_cons pe_int (pa_cons pe_int (pa_cons pe_int pa_nil))))))))))))
      (pss_one (ps_ret (pe_op op_cat (pv 3) (pe_lst (pa_cons pe_int (pa_cons (pv 1) (pa_cons pe_int (pa_cons pe_int (pa_cons pe_int (pa_cons pe_int pa_nil)))))))))))))))))))), ?_⟩
    walk_at "s"
    have hw : (if (if 4 * o.mn > o.mn then 4 * o.mn else o.mn) < o.mx then (if 4 * o.mn > o.mn then 4 * o.mn else o.mn) else o.mx) = o.wait := by
      unfold OptD.wait bnd
      split <;> split <;> (try split) <;> omega
    refine br_2 (fun c1 => ?_) (fun c1 => ?_)
    · subst c1
      walk_at "s"
      exact q _ _ (by walk_at "fresh") (by walk_at "same") (lk_eq (by walk_at "look") (by
        rw [hw]
        simp [endN, EndD.phN, senN, recN, triN, conN, mayN]))
    · subst c1
      walk_at "s"
      exact q _ _ (by walk_at "fresh") (by walk_at "same") (lk_eq (by walk_at "look") (by
        rw [hw]
        simp [endN, EndD.phN, senN, recN, triN, conN, mayN]))
theorem ok__law_endpoint (W : Wld K mg) : GFn P w K mg base "_law_endpoint" 1 ["_law_options_here", "_law_now", "_law_end"] (spLEnd K) := by
  obtain ⟨fd, F1, F⟩ := fo__law_endpoint (P := P) (w := w) (base := base) W
  exact ⟨⟨_, fd, F1, W.g__law_endpoint, F.kp, F.bindsN fun _ _ _ _ _ _ us hl => match us, hl with | [_, _, _], _ => rfl⟩⟩
end
end
/-! part D33 -/
section
set_option maxHeartbeats 1000000
open PySem PySem.Spec PyProof.Rows L2 ClX TL

section
variable {P : Program} [PrOk P] {w : World} {K : PySem.W.Frag} {mg : Str → Option Value} {base : Heap}
def spLShift : Sp := fun vs H Q _ => ∃ r : Int, vs = [.int r] ∧ 0 ≤ r ∧ r ≤ 262144 ∧ Q (.int (shf r)) H
abbrev N__law_shift : List Str := ["_law_room", "_law_shift_here", "_law_turn"]
theorem sc__law_shift : FnScope N__law_shift ["_law_room"] (defScope s__law_shift) := ⟨rfl, rfl, rfl, by decide +kernel, rfl, by decide +kernel, by decide +kernel⟩
theorem fo__law_shift (W : Wld K mg) : ∃ fd, FnOk P w K mg base CX0 1 (pl__law_shift.ad K) fd ["_law_room"] spLShift ∧ FunD K "_law_shift" "_law_shift" (defArgs s__law_shift) (defBody s__law_shift) (defScope s__law_shift) [] [] (pl__law_shift.ad K) fd := by
  obtain ⟨fd, F⟩ := W.d__law_shift
  refine ⟨fd, F.ok sc__law_shift (fun vs H Q E h => ?_) (fun cdv A outer s H vs Q E hr h => ?_), F⟩
  · obtain ⟨r, rfl, l1, l2, q⟩ := h; rfl
  · obtain ⟨r, rfl, l1, l2, q⟩ := h
    have hu := hu_of hr
    refine ⟨_, PSs.nox (pss_cons (ps_set (i := 1) sc__law_shift.nd rfl (Or.inl rfl) pe_int)
      (pss_cons (ps_for PassesOwn.never rfl (pi_range1 rfl W.f_range (pa_cons pe_int pa_nil)) (pg_name (i := 2) sc__law_shift.nd rfl (Or.inl rfl)) (pss_one (ps_if (pt_cmpR op_gt (pv 0) pe_int (nomark _)) (pss_cons (ps_set (i := 0) sc__law_shift.nd rfl (Or.inl rfl) (pe_op op_fdiv (pv 0) pe_int))
      (pss_one (ps_set (i := 1) sc__law_shift.nd rfl (Or.inl rfl) (pe_op op_add (pv 1) pe_int)))) pss_nil)))
      (pss_one (ps_ret (pv 1))))), ?_⟩
    walk_at "s"
    refine c_loopR (n := 14) rfl (fun i σ H' => H' = H ∧ ∃ (x s : Int) (v : Option V), σ = [some (.int x), some (.int s), v] ∧ shf x + s = shf r ∧ 0 ≤ x ∧ x ≤ 262144 ∧ (1 ≤ i → x ≤ 131072) ∧ (2 ≤ i → x ≤ 65536) ∧ (3 ≤ i → x ≤ 65535)) ?_ ?_ ?_
    · exact ⟨rfl, r, 0, none, rfl, by omega, l1, l2, by omega, by omega, by omega⟩
    · rintro i σ H' hi ⟨rfl, x, s, v, rfl, h1, h2, h3, h4, h5, h6⟩
      walk_at "s"
      refine br_2 (fun c1 => ?_) (fun c1 => ?_)
      · have c2 := of_decide_eq_true c1
        walk_at "s"
        refine ⟨rfl, x / 2, s + 1, _, rfl, ?_, by omega, by omega, by omega, by omega, by omega⟩
        rw [← h1]
        unfold shf
        split <;> split <;> (try split) <;> (try split) <;> (try split) <;> omega
      · have c2 := of_decide_eq_false c1
        walk_at "s"
        exact ⟨rfl, x, s, _, rfl, h1, h2, h3, by omega, by omega, by omega⟩
    · rintro σ H' ⟨rfl, x, s, v, rfl, h1, h2, h3, h4, h5, h6⟩
      walk_at "s"
      have e : shf x = 0 := by unfold shf; rw [if_pos (h6 (by omega))]
      rw [e, Int.zero_add] at h1
      exact h1 ▸ q
theorem ok__law_shift (W : Wld K mg) : GFn P w K mg base "_law_shift" 1 ["_law_room"] spLShift := by
  obtain ⟨fd, F1, F⟩ := fo__law_shift (P := P) (w := w) (base := base) W
  exact ⟨⟨_, fd, F1, W.g__law_shift, F.kp, F.bindsN fun _ _ _ _ _ _ us hl => match us, hl with | [_], _ => rfl⟩⟩
theorem u_LShift {r : Int} {H : Hp} {Q : VK} (l1 : 0 ≤ r) (l2 : r ≤ 262144) (q : Q (.int (shf r)) H) : spLShift [.int r] H Q E0 := ⟨r, rfl, l1, l2, q⟩
def spLPkt (K : PySem.W.Frag) : Sp := fun vs H Q _ => ∃ (oa od e a : Addr) (o : OptD) (adr now : Int) (k : SkD) (fin ab : Bool) (os : List Int), vs = [.ref oa, .int adr, .int now, .ref e] ∧ OAt K H oa od o ∧ o.Ok ∧ LEnd H e a k fin ab os ∧ RL (nis (pkN adr k.peer (enc adr k.peer (segO k o now)))) H Q
local macro_rules | `(tactic| walk_at "sz") => `(tactic| (simp only [enc_len, List.length_map, List.length_append, List.length_cons, List.length_nil, sizeLine_eq]; omega))
local macro_rules | `(tactic| walk_at "seg") => `(tactic| (refine' SegOK.mk ?k1 ?k2 ?k3 ?k4; (case k1 => walk_at "look"); (case k2 => walk_at "look"); (case k3 => walk_at "look"); (case k4 => walk_at "look")))
local macro_rules | `(tactic| walk_at "s1") => `(tactic| first
  | (show spLShift _ _ _ _; refine u_LShift (by omega) (by omega) ?_)
  | (show spEncode _ _ _ _ _; refine' u_encode ?k1 ?k2; (case k1 => walk_at "seg"))
  | (show spSegmentI _ _ _ _ _ _; refine' u_SegmentI ?k1 ?k2 ?k3 ?k4; (case k1 => walk_at "look"); (case k2 => walk_at "emp"); (case k3 => walk_at "emp")))
abbrev N__law_packet : List Str := ["_law_options_here", "_law_address", "_law_now", "_law_end", "_law_segment", "_law_octets"]
theorem sc__law_packet : FnScope N__law_packet ["_law_options_here", "_law_address", "_law_now", "_law_end"] (defScope s__law_packet) := ⟨rfl, rfl, rfl, by decide +kernel, rfl, by decide +kernel, by decide +kernel⟩
theorem fo__law_packet (W : Wld K mg) : ∃ fd, FnOk P w K mg base CX0 7 (pl__law_packet.ad K) fd ["_law_options_here", "_law_address", "_law_now", "_law_end"] (spLPkt K) ∧ FunD K "_law_packet" "_law_packet" (defArgs s__law_packet) (defBody s__law_packet) (defScope s__law_packet) [] [] (pl__law_packet.ad K) fd := by
  obtain ⟨fd, F⟩ := W.d__law_packet
  refine ⟨fd, F.ok sc__law_packet (fun vs H Q E h => ?_) (fun cdv A outer s H vs Q E hr h => ?_), F⟩
  · obtain ⟨oa, od, e, a, o, adr, now, k, fin, ab, os, rfl, z1, ok, ⟨z2, z3⟩, q⟩ := h; rfl
  · obtain ⟨oa, od, e, a, o, adr, now, k, fin, ab, os, rfl, z1, ok, ⟨z2, z3⟩, q⟩ := h
    have hu := hu_of hr
    refine ⟨_, PSs.nox (pss_cons (ps_set (i := 4) sc__law_packet.nd rfl (Or.inl rfl) (pe_mkK (ok_Segment_make_kL (P := P) (K := K) W) (hr.mono (by decide)) (by rfl) (pa_cons (pe_dget hu (pv 3) pe_str (fun _ _ => rfl)) (pa_cons (pe_dget hu (pv 3) pe_str (fun _ _ => rfl)) pa_nil)) (pk_cons (pe_op op_mod (pe_callTy call_int1 (by rfl) W.f_int bt_int (pa_cons (pe_op op_mul (pe_dget hu (pv 3) pe_str (fun _ _ => rfl)) pe_int) pa_nil)) pe_int) (pk_cons (pe_dget hu (pv 3) pe_str (fun _ _ => rfl)) (pk_cons pe_bl (pk_cons (pe_callB (call_min2 rfl) (by rfl) W.f_min bt_min (pa_cons pe_int (pa_cons (pe_get W.c_Options W.n_Options_room ROptions.l_room (pv 0)) pa_nil))) (pk_cons (pe_get W.c_Options W.n_Options_mss ROptions.l_mss (pv 0)) (pk_cons (pe_fn (ok__law_shift (P := P) (K := K) W) (hr.mono (by decide)) (by rfl) (pa_cons (pe_get W.c_Options W.n_Options_room ROptions.l_room (pv 0)) pa_nil)) (pk_cons pe_bl (pk_cons (pe_tup (pa_cons (pe_op op_mod (pe_callTy call_int1 (by rfl) W.f_int bt_int (pa_cons (pv 2) pa_nil)) pe_int) (pa_cons pe_int pa_nil))) pk_nil))))))))))
      (pss_cons (ps_set (i := 5) sc__law_packet.nd rfl (Or.inl rfl) (pe_fn (ok_encode (P := P) (K := K) W) (hr.mono (by decide)) (by rfl) (pa_cons (pv 1) (pa_cons (pe_dget hu (pv 3) pe_str (fun _ _ => rfl)) (pa_cons (pv 4) pa_nil)))))
      (pss_one (ps_ret (pe_op op_cat (pe_lst (pa_cons (pv 1) (pa_cons (pe_dget hu (pv 3) pe_str (fun _ _ => rfl)) (pa_cons pe_int (pa_cons (pe_callB call_len_seq (by rfl) W.f_len boot_len (pa_cons (pv 5) pa_nil)) pa_nil))))) (pv 5)))))), ?_⟩
    have ok2 := ok
    obtain ⟨m1, m2, r1, r2, _, _, _, _, _, _, _, _, _, _, _, _, _⟩ := ok2
    have eR := W.e_Segment_ranges
    have eD := W.e_Segment_data
    walk_at "s"
    rename_i pT fT px pd fpx fpd npx ra rb H9 fa fb n3 n4 n5 e9 h9 ha hb
    have hs : (k.cnt * 2654435761 % 4294967296 + 0) % 4294967296 = k.cnt * 2654435761 % 4294967296 := by omega
    refine u_encode (d := segO k o now) (rl := ra) (st := pT) (dl := rb) (dx := pd) ⟨ins_eq h9 ?_, ha, by walk_at "look", hb⟩ ?_
    · show RSegment.fs _ = RSegment.fs (SegD.r (segO k o now) ra pT rb)
      unfold SegD.r
      dsimp only [segO]
      rw [hs]
    have hl := enc_len adr k.peer (segO k o now)
    walk_at "s"
    exact q _ _ (by walk_at "fresh") (by walk_at "same") (lk_eq (by walk_at "look") (by simp [pkN]))
theorem ok__law_packet (W : Wld K mg) : GFn P w K mg base "_law_packet" 7 ["_law_options_here", "_law_address", "_law_now", "_law_end"] (spLPkt K) := by
  obtain ⟨fd, F1, F⟩ := fo__law_packet (P := P) (w := w) (base := base) W
  exact ⟨⟨_, fd, F1, W.g__law_packet, F.kp, F.bindsN fun _ _ _ _ _ _ us hl => match us, hl with | [_, _, _, _], _ => rfl⟩⟩
theorem u_LPkt {oa od e a : Addr} {o : OptD} {adr now : Int} {k : SkD} {fin ab : Bool} {os : List Int} {H : Hp} {Q : VK} (h : OAt K H oa od o) (ok : o.Ok) (h2 : LEnd H e a k fin ab os) (q : RL (nis (pkN adr k.peer (enc adr k.peer (segO k o now)))) H Q) : spLPkt K [.ref oa, .int adr, .int now, .ref e] H Q E0 := ⟨oa, od, e, a, o, adr, now, k, fin, ab, os, rfl, h, ok, h2, q⟩
local macro_rules | `(tactic| walk_at "lg") => `(tactic| assumption)
local macro_rules | `(tactic| walk_at "s1") => `(tactic| first
  | (with_reducible refine c_m1 ?_)
  | (with_reducible refine c_isstr ?_))
theorem line_sum {ns : List Int} (hn : Nums ns) : (((ns.map numS).map (·.length)).sum + (ns.map numS).length * (Str.ofString " ").length) ≤ 16777216 := by
  have h1 := sum_le (fun s : Str => s.length) 20 (ns.map numS) (fun s hs => by
    obtain ⟨n, hm, rfl⟩ := List.mem_map.mp hs
    exact num_len (hn.2 n hm))
  have h2 : (ns.map numS).length ≤ 2000 := by simpa using hn.1
  have h3 : (Str.ofString " ").length = 1 := by decide +kernel
  rw [h3]
  have h4 : (ns.map numS).length * 20 ≤ 2000 * 20 := Nat.mul_le_mul_right _ h2
  omega
def spLLine : Sp := fun vs H Q _ => ∃ (a : Addr) (ns : List Int), vs = [.ref a] ∧ H a = some (.lst (nis ns)) ∧ Nums ns ∧ RV (.str (lineS ns ++ ("\n" : Str))) H Q
abbrev N__law_line : List Str := ["_law_numbers", "_law_number"]
theorem sc__law_line : FnScope N__law_line ["_law_numbers"] (defScope s__law_line) := ⟨rfl, rfl, rfl, by decide +kernel, rfl, by decide +kernel, by decide +kernel⟩
theorem fo__law_line (W : Wld K mg) : ∃ fd, FnOk P w K mg base CX0 1 (pl__law_line.ad K) fd ["_law_numbers"] spLLine ∧ FunD K "_law_line" "_law_line" (defArgs s__law_line) (defBody s__law_line) (defScope s__law_line) [] [] (pl__law_line.ad K) fd := by
  obtain ⟨fd, F⟩ := W.d__law_line
  refine ⟨fd, F.ok sc__law_line (fun vs H Q E h => ?_) (fun cdv A outer s H vs Q E hr h => ?_), F⟩
  · obtain ⟨a, ns, rfl, z1, hn, q⟩ := h; rfl
  · obtain ⟨a, ns, rfl, z1, hn, q⟩ := h
    have hu := hu_of hr
    refine ⟨_, PSs.nox (pss_one (ps_ret (pe_op op_add_str (pe_join pe_str (pe_lc (own := [("_law_number", 1)]) (g := gName 1) (tt := tYes) rfl sc__law_line.nd (pi_list (pv 0)) (blkOk_by (own := [("_law_number", 1)]) (N := N__law_line) (sc := defScope s__law_line) (by decide +kernel)) (fun _ _ _ _ _ => pg_name (i := 1) sc__law_line.nd rfl (Or.inl rfl)) (fun _ _ _ _ _ => pts_nil) (fun _ _ _ _ _ => (pe_callTy call_str_int (by rfl) W.f_str bt_str (pa_cons (pv 1) pa_nil))))) pe_str))), ?_⟩
    walk_at "s"
    rename_i Dl fD
    refine c_mapV (ns.map fun n => V.str (numS n)) (by simp) z1 (by have := hn.1; simp; omega) fD (fun _ => rfl) ?_ ?_
    · intro i x y H' hx hy e Q' hq
      obtain ⟨n, rfl, hi⟩ := nis_at hx
      rw [List.getElem?_map, hi] at hy
      have ey : V.str (numS n) = y := Option.some.inj hy
      subst ey
      have hl := num_log (hn.2 n (List.mem_of_getElem? hi))
      walk_at "s"
      exact hq _ (by walk_at "same")
    · intro H2 e2 hD
      have hs := line_sum hn
      have hD2 : H2 Dl = some (.lst ((ns.map numS).map V.str)) := by rw [hD]; simp
      refine ⟨_, _, ns.map numS, rfl, rfl, .inl (SqL.of hD2), hs, ?_⟩
      walk_at "s"
      refine ⟨_, _, rfl, rfl, ?_, q H2 e2⟩
      have h1 := line_len hn
      have h2 : (Str.ofString "\n").length = 1 := by decide +kernel
      rw [h2, sizeLine_eq]
      exact Nat.le_trans (Nat.succ_le_succ h1) (by decide)
theorem ok__law_line (W : Wld K mg) : GFn P w K mg base "_law_line" 1 ["_law_numbers"] spLLine := by
  obtain ⟨fd, F1, F⟩ := fo__law_line (P := P) (w := w) (base := base) W
  exact ⟨⟨_, fd, F1, W.g__law_line, F.kp, F.bindsN fun _ _ _ _ _ _ us hl => match us, hl with | [_], _ => rfl⟩⟩
theorem u_LLine {a : Addr} {xs : List V} {ns : List Int} {H : Hp} {Q : VK} (h : H a = some (.lst xs)) (e : xs = nis ns) (hn : Nums ns) (q : RV (.str (lineS ns ++ ("\n" : Str))) H Q) : spLLine [.ref a] H Q E0 := ⟨a, ns, rfl, lk_eq h e, hn, q⟩
end
end
/-! part D34 -/
section
set_option maxHeartbeats 1000000
open PySem PySem.Spec PyProof.Rows L2 ClX TL

section
variable {P : Program} [PrOk P] {w : World} {K : PySem.W.Frag} {mg : Str → Option Value} {base : Heap}
structure LE where
  e : Addr
  a : Addr
  k : SkD
  fin : Bool
  ab : Bool
  os : List Int
abbrev worldV (oa Lr Er : Addr) (g : HD) (taken : Bool) : List (Key × V) := [(Sum.inr "options", .ref oa), (Sum.inr "address", .int g.addr), (Sum.inr "now", .int g.now), (Sum.inr "counter", .int g.ctr), (Sum.inr "listeners", .ref Lr), (Sum.inr "ends", .ref Er), (Sum.inr "taken", .bl taken)]
structure WA where
  w : Addr
  oa : Addr
  od : Addr
  L : Addr
  E : Addr
/-- the law's own books -/
structure WOk (K : PySem.W.Frag) (H : Hp) (B : WA) (g : HD) (o : OptD) (ls : List (Addr × (Int × Int))) (es : List LE) (taken : Bool) : Prop where
  hw : H B.w = some (.dK (worldV B.oa B.L B.E g taken))
  ho : OAt K H B.oa B.od o
  hL : H B.L = some (.lst (ls.map fun y => .ref y.1))
  hE : H B.E = some (.lst (es.map fun y => .ref y.e))
  aL : ∀ y ∈ ls, H y.1 = some (.lst [.int y.2.1, .int y.2.2])
  aE : ∀ y ∈ es, LEnd H y.e y.a y.k y.fin y.ab y.os
def lawC (g : HD) (o : OptD) (ls : List (Int × Int)) (es : List LE) (taken : Bool) : List (List Int) :=
  [headN g o ls.length es.length (if taken = true then 0 else es.length)] ++ ls.map (fun p => [p.1, p.2]) ++ es.map (fun y => sockN y.k o (dF o g.now y.os y.fin y.ab)) ++ (if taken = true then [] else es.map fun y => pkN g.addr y.k.peer (enc g.addr y.k.peer (segO y.k o g.now)))
theorem WOk.ext {H H' : Hp} {B : WA} {g : HD} {o : OptD} {ls : List (Addr × (Int × Int))} {es : List LE} {taken : Bool} (h : WOk K H B g o ls es taken) (e : Same H H') : WOk K H' B g o ls es taken :=
  ⟨e _ _ h.hw, e _ _ h.ho, e _ _ h.hL, e _ _ h.hE, fun y hy => e _ _ (h.aL y hy), fun y hy => ⟨e _ _ (h.aE y hy).he, e _ _ (h.aE y hy).ha⟩⟩
theorem snoc_len {cs : List (List Int)} {c : List Int} (h : ∀ x ∈ cs ++ [c], Nums x) (hl : cs.length ≤ 300) : (textS cs).length + (lineS c ++ ("\n" : Str)).length ≤ sizeLine := by
  have h1 := text_len h (by rw [List.length_append]; simp; omega)
  rw [textS_snoc, app_len] at h1
  omega
theorem take_snoc {α : Type} {l : List α} {i : Nat} {x : α} (h : l[i]? = some x) : l.take (i + 1) = l.take i ++ [x] := by
  rw [List.take_add_one, h]
  rfl
theorem c_split {b : Bool} {t u : TS} {D : Ends} {σ : L2.St} {H : Hp} (J : L2.St → Hp → Prop) (k : ∀ σ' H', J σ' H' → D.nx σ' H') (h1 : b = true → ∀ N : L2.St → Hp → Prop, (∀ σ' H', J σ' H' → N σ' H') → t { D with nx := N } σ H)
    (h2 : b = false → ∀ N : L2.St → Hp → Prop, (∀ σ' H', J σ' H' → N σ' H') → u { D with nx := N } σ H) : if b = true then t D σ H else u D σ H := br_2 (fun e => h1 e D.nx k) fun e => h2 e D.nx k
def pksC (g : HD) (o : OptD) (es : List LE) (taken : Bool) : List (List Int) := if taken = true then [] else es.map fun y => pkN g.addr y.k.peer (enc g.addr y.k.peer (segO y.k o g.now))
def fL (p : Int × Int) : List Int := [p.1, p.2]
def fE (o : OptD) (g : HD) (y : LE) : List Int := sockN y.k o (dF o g.now y.os y.fin y.ab)
def hdC (g : HD) (o : OptD) (ls : List (Int × Int)) (es : List LE) (taken : Bool) : List Int := headN g o ls.length es.length (if taken = true then 0 else es.length)
theorem lawC_eq (g : HD) (o : OptD) (ls : List (Int × Int)) (es : List LE) (taken : Bool) : lawC g o ls es taken = [hdC g o ls es taken] ++ ls.map fL ++ es.map (fE o g) ++ pksC g o es taken := rfl
theorem take_mapm {α β : Type} {f : α → β} {l : List α} {i : Nat} {x : β} (h : x ∈ (l.take i).map f) : x ∈ l.map f := by
  obtain ⟨y, hy, rfl⟩ := List.mem_map.mp h
  exact List.mem_map_of_mem (List.mem_of_mem_take hy)
theorem num_pre {C cs : List (List Int)} {c : List Int} (hc : ∀ x ∈ C, Nums x) (h : ∀ x ∈ cs, x ∈ C) (h2 : c ∈ C) : ∀ x ∈ cs ++ [c], Nums x := fun x hx => by
  rcases List.mem_append.mp hx with h3 | h3
  · exact hc x (h x h3)
  · rw [List.mem_singleton.mp h3]
    exact hc c h2
theorem add_b {cs : List (List Int)} {c : List Int} {x : Str} (ht : x = textS cs) (h : ∀ x ∈ cs ++ [c], Nums x) (hl : cs.length ≤ 300) : x.length + (lineS c ++ ("\n" : Str)).length ≤ sizeLine := by rw [ht]; exact snoc_len h hl
def spLText (K : PySem.W.Frag) : Sp := fun vs H Q _ => ∃ (B : WA) (g : HD) (o : OptD) (ls : List (Addr × (Int × Int))) (es : List LE) (taken : Bool), vs = [.ref B.w] ∧ WOk K H B g o ls es taken ∧ o.Ok ∧ ls.length ≤ 100 ∧ es.length ≤ 90 ∧ (∀ y ∈ es, y.os.length ≤ 900) ∧ (∀ c ∈ lawC g o (ls.map (·.2)) es taken, Nums c) ∧ RV (.str (textS (lawC g o (ls.map (·.2)) es taken))) H Q
local macro_rules | `(tactic| walk_at "sz") => `(tactic| (simp only [optN_len, List.length_map, List.length_append, List.length_cons, List.length_nil, sizeLine_eq]; omega))
local macro_rules | `(tactic| walk_at "s1") => `(tactic| first
  | (show spLHead _ _ _ _ _; refine' u_LHead ?k1 ?k2; (case k1 => walk_at "look")))
abbrev N__law_text : List Str := ["_law_world", "_law_options_here", "_law_ends", "_law_packets", "_law_head_here", "_law_text_here", "_law_pair", "_law_end", "_law_packet_here", "_law_names"]
theorem sc__law_text : FnScope N__law_text ["_law_world"] (defScope s__law_text) := ⟨rfl, rfl, rfl, by decide +kernel, rfl, by decide +kernel, by decide +kernel⟩
theorem fo__law_text (W : Wld K mg) : ∃ fd, FnOk P w K mg base CX0 8 (pl__law_text.ad K) fd ["_law_world"] (spLText K) ∧ FunD K "_law_text" "_law_text" (defArgs s__law_text) (defBody s__law_text) (defScope s__law_text) [] [] (pl__law_text.ad K) fd := by
  obtain ⟨fd, F⟩ := W.d__law_text
  refine ⟨fd, F.ok sc__law_text (fun vs H Q E h => ?_) (fun cdv A outer s H vs Q E hr h => ?_), F⟩
  · obtain ⟨B, g, o, ls, es, taken, rfl, wk, ok, l1, l2, l3, hc, q⟩ := h; rfl
  · obtain ⟨B, g, o, ls, es, taken, rfl, wk, ok, l1, l2, l3, hc, q⟩ := h
    have hu := hu_of hr
    refine ⟨_, PSs.nox (pss_cons (ps_set (i := 1) sc__law_text.nd rfl (Or.inr rfl) (pe_dget hu (pv 0) pe_str (fun _ _ => rfl)))
      (pss_cons (ps_set (i := 2) sc__law_text.nd rfl (Or.inl rfl) (pe_dget hu (pv 0) pe_str (fun _ _ => rfl)))
      (pss_cons (ps_set (i := 3) sc__law_text.nd rfl (Or.inl rfl) (pe_lst pa_nil))
      (pss_cons (ps_if (pt_not (pt_val (pe_dget hu (pv 0) pe_str (fun _ _ => rfl)))) (pss_one (ps_setLc (i := 3) (own := [("_law_end", 7)]) (g := gName 7) (tt := tYes) rfl sc__law_text.nd rfl rfl (sw_true rfl rfl rfl (by decide +kernel)) (pi_list (pv 2)) (blkOk_by (own := [("_law_end", 7)]) (N := N__law_text) (sc := defScope s__law_text) (by decide +kernel)) (fun _ _ _ _ _ => pg_name (i := 7) sc__law_text.nd rfl (Or.inl rfl)) (fun _ _ _ _ _ => pts_nil) (fun _ _ _ _ _ => (pe_fn (ok__law_packet (P := P) (K := K) W) (hr.mono (by decide)) (by rfl) (pa_cons (pv 1) (pa_cons (pe_dget hu (pv 0) pe_str (fun _ _ => rfl)) (pa_cons (pe_dget hu (pv 0) pe_str (fun _ _ => rfl)) (pa_cons (pv 7) pa_nil)))))))) pss_nil)
      (pss_cons (ps_set (i := 4) sc__law_text.nd rfl (Or.inl rfl) (pe_op op_cat (pe_op op_cat (pe_lst (pa_cons (pe_dget hu (pv 0) pe_str (fun _ _ => rfl)) pa_nil)) (pe_fn (ok__law_head (P := P) (K := K) W) (hr.mono (by decide)) (by rfl) (pa_cons (pv 1) pa_nil))) (pe_lst (pa_cons (pe_dget hu (pv 0) pe_str (fun _ _ => rfl)) (pa_cons (pe_dget hu (pv 0) pe_str (fun _ _ => rfl)) (pa_cons (pe_callB call_len_seq (by rfl) W.f_len boot_len (pa_cons (pe_dget hu (pv 0) pe_str (fun _ _ => rfl)) pa_nil)) pa_nil))))))
      (pss_cons (ps_set (i := 5) sc__law_text.nd rfl (Or.inl rfl) (pe_op op_add_str pe_str (pe_fn (ok__law_line (P := P) (K := K) W) (hr.mono (by decide)) (by rfl) (pa_cons (pe_op op_cat (pv 4) (pe_lst (pa_cons (pe_callB call_len_seq (by rfl) W.f_len boot_len (pa_cons (pv 2) pa_nil)) (pa_cons (pe_callB call_len_seq (by rfl) W.f_len boot_len (pa_cons (pv 3) pa_nil)) pa_nil)))) pa_nil))))
      (pss_cons (ps_for PassesOwn.never rfl (pi_list (pe_dget hu (pv 0) pe_str (fun _ _ => rfl))) (pg_name (i := 6) sc__law_text.nd rfl (Or.inl rfl)) (pss_one (ps_set (i := 5) sc__law_text.nd rfl (Or.inl rfl) (pe_op op_add_str (pv 5) (pe_fn (ok__law_line (P := P) (K := K) W) (hr.mono (by decide)) (by rfl) (pa_cons (pe_lst (pa_cons (pe_ix ix_list (pv 6) pe_int (fun _ _ => rfl)) (pa_cons (pe_ix ix_list (pv 6) pe_int (fun _ _ => rfl)) pa_nil))) pa_nil))))))
      (pss_cons (ps_for PassesOwn.never rfl (pi_list (pv 2)) (pg_name (i := 7) sc__law_text.nd rfl (Or.inl rfl)) (pss_cons (ps_set (i := 9) sc__law_text.nd rfl (Or.inl rfl) (pe_lst (pa_cons (pe_dget hu (pv 7) pe_str (fun _ _ => rfl)) (pa_cons (pe_dget hu (pv 7) pe_str (fun _ _ => rfl)) (pa_cons (pe_dget hu (pv 7) pe_str (fun _ _ => rfl)) (pa_cons (pe_dget hu (pv 7) pe_str (fun _ _ => rfl)) (pa_cons pe_int (pa_cons pe_int (pa_cons pe_int (pa_cons pe_int (pa_cons pe_int pa_nil)))))))))))
      (pss_one (ps_set (i := 5) sc__law_text.nd rfl (Or.inl rfl) (pe_op op_add_str (pv 5) (pe_fn (ok__law_line (P := P) (K := K) W) (hr.mono (by decide)) (by rfl) (pa_cons (pe_op op_cat (pv 9) (pe_fn (ok__law_endpoint (P := P) (K := K) W) (hr.mono (by decide)) (by rfl) (pa_cons (pv 1) (pa_cons (pe_dget hu (pv 0) pe_str (fun _ _ => rfl)) (pa_cons (pv 7) pa_nil))))) pa_nil)))))))
      (pss_cons (ps_for PassesOwn.never rfl (pi_list (pv 3)) (pg_name (i := 8) sc__law_text.nd rfl (Or.inl rfl)) (pss_one (ps_set (i := 5) sc__law_text.nd rfl (Or.inl rfl) (pe_op op_add_str (pv 5) (pe_fn (ok__law_line (P := P) (K := K) W) (hr.mono (by decide)) (by rfl) (pa_cons (pv 8) pa_nil))))))
      (pss_one (ps_ret (pv 5)))))))))))), ?_⟩
    have z1 := wk.hw
    have z2 := wk.ho
    have z3 := wk.hL
    have z4 := wk.hE
    walk_at "s"
    rename_i p0 f0
    refine c_split (fun σ' H' => ∃ pk ys, σ' = [some (.ref B.w), some (.ref B.oa), some (.ref B.E), some (.ref pk), none, none, none, none, none, none] ∧ Same H H' ∧ H' pk = some (.lst ys) ∧ CdsAt H' ys (pksC g o es taken)) ?_ ?_ ?_
    · rintro σ' H' ⟨pk, ys, rfl, e, hp, cd⟩
      have wk2 := wk.ext e
      have q : RV (.str (textS (lawC g o (ls.map (·.2)) es taken))) H' Q := fun H2 e2 => q H2 fun b u h => e2 _ _ (e _ _ h)
      clear e wk z1 z2 z3 z4
      have z1 := wk2.hw
      have z2 := wk2.ho
      have z3 := wk2.hL
      have z4 := wk2.hE
      rw [lawC_eq] at hc q
      generalize hpc : pksC g o es taken = pcs at *
      have hpl : pcs.length = if taken = true then 0 else es.length := by
        rw [← hpc]
        unfold pksC
        split <;> simp
      have hpl2 : pcs.length ≤ 90 := by
        rw [hpl]
        split <;> omega
      have hyl := cd.1
      generalize hh : hdC g o (ls.map (·.2)) es taken = hdr at *
      have mh : hdr ∈ [hdr] ++ (ls.map (·.2)).map fL ++ es.map (fE o g) ++ pcs := by simp
      walk_at "s"
      refine u_LLine (ns := hdr) (by walk_at "look") ?_ (hc _ mh) ?_
      · rw [← hh]
        simp [hdC, headN, hyl, hpl]
      walk_at "s"
      rename_i H2 e2
      refine ⟨_, _, rfl, rfl, add_b (cs := []) (by rw [textS_nil]) (num_pre hc (fun x hx => by cases hx) mh) (by simp), ?_⟩
      rw [show ((Str.ofString "throughline host 1\n") ++ (lineS hdr ++ Str.ofString "\n")) = textS [hdr] by rw [show [hdr] = [] ++ [hdr] from rfl, textS_snoc, textS_nil]]
      have e3 : Same H' H2 := by walk_at "same"
      have hpk : H2 pk = some (.lst ys) := by walk_at "look"
      have wk3 := wk2.ext e3
      have cd3 := cd.ext e3
      have q2 : RV (.str (textS ([hdr] ++ (ls.map (·.2)).map fL ++ es.map (fE o g) ++ pcs))) H2 Q := fun G e2 => q G fun b u h => e2 _ _ (e3 _ _ h)
      clear e2 wk2 cd hp z1 z2 z3 z4 q
      have z1 := wk3.hw
      have z2 := wk3.ho
      have z3 := wk3.hL
      have z4 := wk3.hE
      clear e3
      walk_at "s"
      refine c_loopL (xs := ls.map fun y => .ref y.1) (fun i σ G => (∃ hd u, σ = [some (.ref B.w), some (.ref B.oa), some (.ref B.E), some (.ref pk), hd, some (.str (textS ([hdr] ++ ((ls.map (·.2)).take i).map fL))), u, none, none, none]) ∧ Same H2 G) ?_ ?_ ?_ ?_
      · exact ⟨⟨_, _, rfl⟩, by walk_at "same"⟩
      · rintro i σ G ⟨_, e⟩
        walk_at "look"
      · rintro i v σ G hv ⟨⟨hd, u, rfl⟩, e⟩
        rw [List.getElem?_map] at hv
        cases hi : ls[i]? with
        | none => rw [hi] at hv; cases hv
        | some y =>
          rw [hi] at hv
          obtain rfl := Option.some.inj hv
          have hm := List.mem_of_getElem? hi
          have zy := wk3.aL y hm
          have hi2 : (ls.map (·.2))[i]? = some y.2 := by rw [List.getElem?_map, hi]; rfl
          have ht : [hdr] ++ ((ls.map (·.2)).take (i + 1)).map fL = [hdr] ++ ((ls.map (·.2)).take i).map fL ++ [fL y.2] := by rw [take_snoc hi2]; simp
          have my : fL y.2 ∈ [hdr] ++ (ls.map (·.2)).map fL ++ es.map (fE o g) ++ pcs := by
            have : fL y.2 ∈ (ls.map (·.2)).map fL := List.mem_map_of_mem (List.mem_of_getElem? hi2)
            simp only [List.mem_append]
            exact .inl (.inl (.inr this))
          have mp : ∀ x ∈ [hdr] ++ ((ls.map (·.2)).take i).map fL, x ∈ [hdr] ++ (ls.map (·.2)).map fL ++ es.map (fE o g) ++ pcs := by
            intro x hx
            simp only [List.mem_append] at hx ⊢
            rcases hx with hx | hx
            · exact .inl (.inl (.inl hx))
            · exact .inl (.inl (.inr (take_mapm hx)))
          rw [ht]
          generalize hcs : [hdr] ++ ((ls.map (·.2)).take i).map fL = cs at mp ⊢
          have hcl : cs.length ≤ 300 := by rw [← hcs]; simp; omega
          walk_at "s"
          refine u_LLine (ns := fL y.2) (by walk_at "look") (by rfl) (hc _ my) ?_
          walk_at "s"
          refine ⟨_, _, rfl, rfl, add_b rfl (num_pre hc mp my) hcl, ?_⟩
          rw [← textS_snoc]
          exact ⟨⟨_, _, rfl⟩, by walk_at "same"⟩
      · rintro σ G ⟨⟨hd, u, rfl⟩, e⟩
        rw [show (ls.map fun y => V.ref y.1).length = (ls.map (·.2)).length by simp, List.take_length]
        have wk4 := wk3.ext e
        have hpk : G pk = some (.lst ys) := e _ _ hpk
        have cd4 := cd3.ext e
        have q3 : RV (.str (textS ([hdr] ++ (ls.map (·.2)).map fL ++ es.map (fE o g) ++ pcs))) G Q := fun G2 e2 => q2 G2 fun b u h => e2 _ _ (e _ _ h)
        clear e wk3 cd3 q2 z1 z2 z3 z4
        have z1 := wk4.hw
        have z2 := wk4.ho
        have z3 := wk4.hL
        have z4 := wk4.hE
        walk_at "s"
        refine c_loopL (xs := es.map fun y => .ref y.e) (fun i σ G2 => (∃ hd u v n, σ = [some (.ref B.w), some (.ref B.oa), some (.ref B.E), some (.ref pk), hd, some (.str (textS ([hdr] ++ (ls.map (·.2)).map fL ++ (es.take i).map (fE o g)))), u, v, none, n]) ∧ Same G G2) ?_ ?_ ?_ ?_
        · exact ⟨⟨_, _, _, _, by rw [List.take_zero, List.map_nil, List.append_nil]⟩, by walk_at "same"⟩
        · rintro i σ G2 ⟨_, e⟩
          walk_at "look"
        · rintro i v σ G2 hv ⟨⟨hd, u, v2, n2, rfl⟩, e⟩
          rw [List.getElem?_map] at hv
          cases hi : es[i]? with
          | none => rw [hi] at hv; cases hv
          | some y =>
            rw [hi] at hv
            obtain rfl := Option.some.inj hv
            have hm := List.mem_of_getElem? hi
            obtain ⟨y1, y2⟩ := wk4.aE y hm
            have yl := l3 y hm
            have ht : [hdr] ++ (ls.map (·.2)).map fL ++ (es.take (i + 1)).map (fE o g) = [hdr] ++ (ls.map (·.2)).map fL ++ (es.take i).map (fE o g) ++ [fE o g y] := by rw [take_snoc hi]; simp
            have my : fE o g y ∈ [hdr] ++ (ls.map (·.2)).map fL ++ es.map (fE o g) ++ pcs := by
              have : fE o g y ∈ es.map (fE o g) := List.mem_map_of_mem hm
              simp only [List.mem_append]
              exact .inl (.inr this)
            have mp : ∀ x ∈ [hdr] ++ (ls.map (·.2)).map fL ++ (es.take i).map (fE o g), x ∈ [hdr] ++ (ls.map (·.2)).map fL ++ es.map (fE o g) ++ pcs := by
              intro x hx
              simp only [List.mem_append] at hx ⊢
              rcases hx with hx | hx
              · exact .inl (.inl hx)
              · exact .inl (.inr (take_mapm hx))
            rw [ht]
            generalize hcs : [hdr] ++ (ls.map (·.2)).map fL ++ (es.take i).map (fE o g) = cs at mp ⊢
            have hcl : cs.length ≤ 300 := by rw [← hcs]; simp; omega
            have hen := endN_len o (dF o g.now y.os y.fin y.ab) (by show y.os.length ≤ 1000; omega)
            walk_at "s"
            refine ⟨B.oa, B.od, y.e, y.a, o, g.now, y.k, y.fin, y.ab, y.os, rfl, by walk_at "look", ⟨by walk_at "look", by walk_at "look"⟩, yl, ?_⟩
            walk_at "s"
            refine u_LLine (ns := fE o g y) (by walk_at "look") (by simp [fE, sockN]) (hc _ my) ?_
            walk_at "s"
            refine ⟨_, _, rfl, rfl, add_b rfl (num_pre hc mp my) hcl, ?_⟩
            rw [← textS_snoc]
            exact ⟨⟨_, _, _, _, rfl⟩, by walk_at "same"⟩
        · rintro σ G2 ⟨⟨hd, u, v2, n2, rfl⟩, e⟩
          rw [show (es.map fun y => V.ref y.e).length = es.length by simp, List.take_length]
          have hpk : G2 pk = some (.lst ys) := e _ _ hpk
          have cd5 := cd4.ext e
          have q4 : RV (.str (textS ([hdr] ++ (ls.map (·.2)).map fL ++ es.map (fE o g) ++ pcs))) G2 Q := fun G3 e2 => q3 G3 fun b u h => e2 _ _ (e _ _ h)
          clear e wk4 cd4 q3 z1 z2 z3 z4
          walk_at "s"
          generalize hbs : [hdr] ++ (ls.map (·.2)).map fL ++ es.map (fE o g) = bs at *
          have hbl : bs.length ≤ 200 := by rw [← hbs]; simp; omega
          refine c_loopL (xs := ys) (fun i σ G3 => (∃ hd u v x n, σ = [some (.ref B.w), some (.ref B.oa), some (.ref B.E), some (.ref pk), hd, some (.str (textS (bs ++ pcs.take i))), u, v, x, n]) ∧ Same G2 G3) ?_ ?_ ?_ ?_
          · exact ⟨⟨_, _, _, _, _, by rw [List.take_zero, List.append_nil]⟩, by walk_at "same"⟩
          · rintro i σ G3 ⟨_, e⟩
            walk_at "look"
          · rintro i v σ G3 hv ⟨⟨hd, u, v2, x2, n2, rfl⟩, e⟩
            obtain ⟨a, c, r1, rfl, r3⟩ := cd5.2 i v hv
            have ht : bs ++ pcs.take (i + 1) = bs ++ pcs.take i ++ [c] := by rw [take_snoc r1, List.append_assoc]
            have my : c ∈ bs ++ pcs := List.mem_append_right _ (List.mem_of_getElem? r1)
            have mp : ∀ x ∈ bs ++ pcs.take i, x ∈ bs ++ pcs := by
              intro x hx
              rcases List.mem_append.mp hx with hx | hx
              · exact List.mem_append_left _ hx
              · exact List.mem_append_right _ (List.mem_of_mem_take hx)
            rw [ht]
            generalize hcs : bs ++ pcs.take i = cs at mp ⊢
            have hcl : cs.length ≤ 300 := by rw [← hcs]; simp; omega
            walk_at "s"
            refine u_LLine (ns := c) (by walk_at "look") (by rfl) (hc _ my) ?_
            walk_at "s"
            refine ⟨_, _, rfl, rfl, add_b rfl (num_pre hc mp my) hcl, ?_⟩
            rw [← textS_snoc]
            exact ⟨⟨_, _, _, _, _, rfl⟩, by walk_at "same"⟩
          · rintro σ G3 ⟨⟨hd, u, v2, x2, n2, rfl⟩, e⟩
            rw [hyl, List.take_length]
            walk_at "s"
            exact q4 G3 e
    · intro c1 N jn
      have ct : taken = false := by simpa using c1
      subst ct
      walk_at "s"
      rename_i Dk fDk
      refine c_mapW (wk := walk_list (xs := es.map fun y => V.ref y.e)) (Xi := fun i x => (es.map fun y => V.ref y.e)[i]? = some x) (Rl := fun i y H => ∃ u p, es[i]? = some u ∧ y = .ref p ∧ p ≠ Dk ∧ H p = some (.lst (nis (pkN g.addr u.k.peer (enc g.addr u.k.peer (segO u.k o g.now)))))) (by simp; omega) fDk (fun H' e => SqL.of (e _ _ (by walk_at "look"))) (fun _ => rfl) ?_ ?_ ?_
      · rintro i x H' hi hx e ⟨acc, hacc⟩ Q' hq
        rw [List.getElem?_map] at hx
        cases hi2 : es[i]? with
        | none => rw [hi2] at hx; cases hx
        | some y =>
          rw [hi2] at hx
          obtain rfl := Option.some.inj hx
          have hm := List.mem_of_getElem? hi2
          obtain ⟨y1, y2⟩ := wk.aE y hm
          walk_at "s"
          refine u_LPkt (o := o) (k := y.k) (fin := y.fin) (ab := y.ab) (os := y.os) (a := y.a) (od := B.od) (by walk_at "look") ok ⟨by walk_at "look", by walk_at "look"⟩ ?_
          walk_at "s"
          rename_i p9 H9 f9 e9 h9
          exact hq _ _ (by walk_at "same") fun H3 st => ⟨y, p9, hi2, rfl, (ne_of_none hacc f9).symm, st _ _ h9 (ne_of_none hacc f9).symm⟩
      · rintro i y H2 H3 st ⟨p, a, h1, h2, h3, h4⟩
        exact ⟨p, a, h1, h2, h3, st _ _ h4 h3⟩
      · intro ys2 H4 e4 hDk hl5 hr5
        walk_at "s"
        refine jn _ _ ⟨Dk, ys2, rfl, by walk_at "same", hDk, ?_⟩
        exact CdsAt.of (by rw [hl5, List.length_map]) fun i y hy => by
          obtain ⟨u, p, r1, r2, _, r4⟩ := hr5 i y hy
          exact ⟨u, p, r1, r2, r4⟩
    · intro c1 N jn
      have ct : taken = true := by simpa using c1
      subst ct
      walk_at "s"
      refine jn _ _ ⟨p0, [], rfl, by walk_at "same", by walk_at "look", ⟨rfl, fun i x hx => ?_⟩⟩
      simp at hx
theorem ok__law_text (W : Wld K mg) : GFn P w K mg base "_law_text" 8 ["_law_world"] (spLText K) := by
  obtain ⟨fd, F1, F⟩ := fo__law_text (P := P) (w := w) (base := base) W
  exact ⟨⟨_, fd, F1, W.g__law_text, F.kp, F.bindsN fun _ _ _ _ _ _ us hl => match us, hl with | [_], _ => rfl⟩⟩
theorem u_LText {B : WA} {g : HD} {o : OptD} {ls : List (Addr × (Int × Int))} {es : List LE} {taken : Bool} {H : Hp} {Q : VK} (h : WOk K H B g o ls es taken) (ok : o.Ok) (l1 : ls.length ≤ 100) (l2 : es.length ≤ 90) (l3 : ∀ y ∈ es, y.os.length ≤ 900) (hc : ∀ c ∈ lawC g o (ls.map (·.2)) es taken, Nums c) (q : RV (.str (textS (lawC g o (ls.map (·.2)) es taken))) H Q) : spLText K [.ref B.w] H Q E0 := ⟨B, g, o, ls, es, taken, rfl, h, ok, l1, l2, l3, hc, q⟩
end
end
/-! part D35 -/
section
set_option maxHeartbeats 1000000
open PySem PySem.Spec PyProof.Rows L2 ClX TL

section
variable {P : Program} [PrOk P] {w : World} {K : PySem.W.Frag} {mg : Str → Option Value} {base : Heap}
/-- a heap but for the places R -/
def cutR (R : List Addr) (H : Hp) : Hp := fun b => if b ∈ R then none else H b
theorem cut_sub {R : List Addr} {H : Hp} : Same (cutR R H) H := fun b u h => by
  unfold cutR at h
  split at h
  · cases h
  · exact h
theorem cut_nin {R : List Addr} {H : Hp} {b : Addr} {u : HO} (h : cutR R H b = some u) : b ∉ R := fun m => by
  unfold cutR at h
  rw [if_pos m] at h
  cases h
theorem cut_at {R : List Addr} {H : Hp} {b : Addr} {u : HO} (h : H b = some u) (n : b ∉ R) : cutR R H b = some u := by
  unfold cutR
  rw [if_neg n]
  exact h
theorem cut_ext {R : List Addr} {H H' : Hp} (e : Kp R H H') : Same (cutR R H) (cutR R H') := fun b u h => cut_at (e b u (cut_sub b u h) (cut_nin h)) (cut_nin h)
/-- the host and the law's books together -/
structure JOk (K : PySem.W.Frag) (H : Hp) (B : HA) (M : WA) (g : HD) (o : OptD) (ls : List (Int × Int)) (lw : List (Addr × (Int × Int))) (ks : List SkX) (qs : List PkX) (es : List LE) (taken : Bool) (F : Hp) : Prop where
  h : HAt K H B g
  S : H B.S = some (.lst (ks.map fun y => .ref y.x.s))
  P : H B.P = some (.lst (qs.map fun q => .ref q.p))
  hw : H M.w = some (.dK (worldV M.oa M.L M.E g taken))
  hE : H M.E = some (.lst (es.map fun y => .ref y.e))
  sub : Same F H
  fr : F B.h = none ∧ F B.S = none ∧ F B.P = none ∧ F M.w = none ∧ F M.E = none
  L : F B.L = some (.dK (lsV ls))
  oa : OAt K F B.oa B.od o
  mo : M.oa = B.oa ∧ M.od = B.od
  wL : F M.L = some (.lst (lw.map fun y => .ref y.1))
  aL : ∀ y ∈ lw, F y.1 = some (.lst [.int y.2.1, .int y.2.2])
  aE : ∀ y ∈ es, LEnd F y.e y.a y.k y.fin y.ab y.os
  kA : ∀ y ∈ ks, KAt K F y.x.s y.x.sd y.x.A.e y.k ∧ EndOK K F B.oa o y.x.A y.d
  pA : ∀ q ∈ qs, PkOK K F q.p q.dx q.oc q.a q.t q.ns
  ba : B.Ap
  dst : M.w ≠ M.E ∧ M.w ≠ B.h ∧ M.w ≠ B.S ∧ M.w ≠ B.P ∧ M.E ≠ B.h ∧ M.E ≠ B.S ∧ M.E ≠ B.P
  ek : ks.map (fun y => (y.k, y.d)) = es.map fun y => (y.k, dF o g.now y.os y.fin y.ab)
  eq : qs.map (fun q => (q.a, q.t, q.ns)) = es.map fun y => (g.addr, y.k.peer, enc g.addr y.k.peer (segO y.k o g.now))
  el : lw.map (·.2) = ls
abbrev nkD (g : HD) (r k : Int) : SkD := ⟨g.ctr + 1, 100 + k, r % 50, 1 + r / 50 % 65535⟩
def RSock (K : PySem.W.Frag) (B : HA) (M : WA) (g : HD) (o : OptD) (ls : List (Int × Int)) (lw : List (Addr × (Int × Int))) (ks : List SkX) (qs : List PkX) (es : List LE) (taken : Bool) (k : SkD) (H : Hp) (Q : VK) : Prop :=
  ∀ (y : SkX) (q : PkX) (e : LE) F' H', y.k = k → e.os.length ≤ 30 → (∀ n ∈ e.os, 0 ≤ n ∧ n < 256) → JOk K H' B M ⟨g.addr, g.ctr + 1, g.now⟩ o ls lw (ks ++ [y]) (qs ++ [q]) (es ++ [e]) taken F' → Kp [B.h, B.S, B.P, M.w, M.E] H H' → Q (.bl true) H'
def spSock (K : PySem.W.Frag) : Sp := fun vs H Q _ => ∃ (B : HA) (M : WA) (g : HD) (o : OptD) (ls : List (Int × Int)) (lw : List (Addr × (Int × Int))) (ks : List SkX) (qs : List PkX) (es : List LE) (taken : Bool) (F : Hp) (r k : Int), vs = [.ref B.h, .ref M.w, .int r, .int k] ∧ JOk K H B M g o ls lw ks qs es taken F ∧ o.Ok ∧ ks.length ≤ 5 ∧ qs.length ≤ 5 ∧ es.length ≤ 5 ∧ 0 ≤ k ∧ k ≤ 5 ∧
  g.ctr < 900 ∧ 60 ≤ g.addr ∧ (∀ y ∈ ks, y.k.port ≠ 100 + k ∧ y.k.cnt ≤ g.ctr) ∧ RSock K B M g o ls lw ks qs es taken (nkD g r k) H Q
local macro_rules | `(tactic| walk_at "s1") => `(tactic| first
  | (with_reducible refine c_disp ?_)
  | (with_reducible refine c_pairs ?_)
  | (with_reducible refine c_pairn ?_))
def fkey : HO → Str
  | .ins _ _ ((k, _) :: _) => k
  | _ => Str.empty
theorem kind_neq {H : Hp} {a b : Addr} {o u : HO} (h : H a = some o) (k : H b = some u) (n : decide (fkey o = fkey u) = false) : a ≠ b := fun e => by
  subst e
  rw [h] at k
  exact of_decide_eq_false n (by rw [Option.some.inj k])
/-- a socket that is being made: what stands -/
structure LS (K : PySem.W.Frag) (H F0 G : Hp) (B : HA) (M : WA) (g : HD) (o : OptD) (taken : Bool) (ss ps ee : List V) (x : SkA) (A : EA) (nk : SkD) (e0 aL : Addr) (os : List Int) (pp dx oc : Addr) (fin ab : Bool) : Prop where
  hB : HAt K G B ⟨g.addr, g.ctr + 1, g.now⟩
  hS : G B.S = some (.lst (ss ++ [.ref x.s]))
  hP : G B.P = some (.lst (ps ++ [.ref pp]))
  hM : G M.E = some (.lst ee)
  hw : G M.w = some (.dK (worldV M.oa M.L M.E ⟨g.addr, g.ctr + 1, g.now⟩ taken))
  he : G e0 = some (.dK (lendV nk fin ab aL))
  ha : G aL = some (.lst (nis os))
  hK : KAt K G x.s x.sd x.A.e nk
  hE : EndOK K G B.oa o A (dF o g.now os fin ab)
  pk : PkOK K G pp dx oc g.addr nk.peer (enc g.addr nk.peer (segO nk o g.now))
  kp : Kp [B.h, B.S, B.P, M.w] H G
  sub : Same F0 G
theorem c_dputN {a : Addr} {kvs : List (Key × V)} {z : Str} {v : V} {H : Hp} {Rq : Hp → Prop} (h : H a = some (.dK kvs)) (hz : kvs.length < sizeLine) (k : ∀ H', Kp [a] H H' → H' a = some (.dK (putK kvs (Sum.inr z) v)) → Rq H') : ∃ a' H4, V.ref a = .ref a' ∧ DPut H a' (.str z) v H4 ∧ Rq H4 :=
  c_dputS h hz (k _ (fun b u hb n => upd_app hb fun e => n (by rw [e]; exact mem0)) upd_same)
local macro_rules | `(tactic| walk_at "s1") => `(tactic| first
  | ((with_reducible refine' c_dputN ?k1 ?k2 ?k3); (case k1 => walk_at "look"); (case k2 => walk_at "sz"); intro H9 e9 h9))
abbrev N__law_socket : List Str := ["_law_host", "_law_world", "_law_row", "_law_k", "_law_end", "_law_octets", "_law_j"]
theorem sc__law_socket : FnScope N__law_socket ["_law_host", "_law_world", "_law_row", "_law_k"] (defScope s__law_socket) := ⟨rfl, rfl, rfl, by decide +kernel, rfl, by decide +kernel, by decide +kernel⟩
theorem fo__law_socket (W : Wld K mg) : ∃ fd, FnOk P w K mg base CX0 17 (pl__law_socket.ad K) fd ["_law_host", "_law_world", "_law_row", "_law_k"] (spSock K) ∧ FunD K "_law_socket" "_law_socket" (defArgs s__law_socket) (defBody s__law_socket) (defScope s__law_socket) [] [] (pl__law_socket.ad K) fd := by
  obtain ⟨fd, F⟩ := W.d__law_socket
  refine ⟨fd, F.ok sc__law_socket (fun vs H Q E h => ?_) (fun cdv A outer s H vs Q E hr h => ?_), F⟩
  · obtain ⟨B, M, g, o, ls, lw, ks, qs, es, taken, F0, r, k, rfl, j, ok, l1, l2, l3, k1, k2, c1, a1, hk, q⟩ := h; rfl
  · obtain ⟨B, M, g, o, ls, lw, ks, qs, es, taken, F0, r, k, rfl, j, ok, l1, l2, l3, k1, k2, c1, a1, hk, q⟩ := h
    have hu := hu_of hr
    refine ⟨_, PSs.nox (pss_cons (ps_set (i := 4) sc__law_socket.nd rfl (Or.inl rfl) (pe_disp (pps_cons pe_str (pe_op op_add pe_int (pv 3)) (pps_cons pe_str (pe_op op_mod (pe_callTy call_int1 (by rfl) W.f_int bt_int (pa_cons (pv 2) pa_nil)) pe_int) (pps_cons pe_str (pe_op op_add pe_int (pe_op op_mod (pe_callTy call_int1 (by rfl) W.f_int bt_int (pa_cons (pe_op op_fdiv (pv 2) pe_int) pa_nil)) pe_int)) (pps_cons pe_str pe_bl (pps_cons pe_str pe_bl (pps_cons pe_str (pe_lst pa_nil) pps_nil)))))) (by rfl) (by rfl) (fun z => by cases z) (by decide)))
      (pss_cons (ps_dput hu (pv 4) pe_str (pe_mt (ok_Host_connect (P := P) (K := K) W) (hr.mono (by decide)) (pv 0) (pa_cons (pe_dget hu (pv 4) pe_str (fun _ _ => rfl)) (pa_cons (pe_dget hu (pv 4) pe_str (fun _ _ => rfl)) (pa_cons (pe_dget hu (pv 4) pe_str (fun _ _ => rfl)) pa_nil)))) rfl)
      (pss_cons (ps_dput hu (pv 1) pe_str (pe_op op_add (pe_dget hu (pv 1) pe_str (fun _ _ => rfl)) pe_int) rfl)
      (pss_cons (ps_setLc (i := 5) (own := [("_law_j", 6)]) (g := gName 6) (tt := tYes) rfl sc__law_socket.nd rfl rfl (sw_true rfl rfl rfl (by decide +kernel)) (pi_range1 rfl W.f_range (pa_cons (pe_op op_mod (pe_callTy call_int1 (by rfl) W.f_int bt_int (pa_cons (pe_op op_fdiv (pv 2) pe_int) pa_nil)) pe_int) pa_nil)) (blkOk_by (own := [("_law_j", 6)]) (N := N__law_socket) (sc := defScope s__law_socket) (by decide +kernel)) (fun _ _ _ _ _ => pg_name (i := 6) sc__law_socket.nd rfl (Or.inl rfl)) (fun _ _ _ _ _ => pts_nil) (fun _ _ _ _ _ => (pe_op op_mod (pe_callTy call_int1 (by rfl) W.f_int bt_int (pa_cons (pe_op op_add (pe_op op_fdiv (pv 2) pe_int) (pe_op op_mul pe_int (pv 6))) pa_nil)) pe_int)))
      (pss_cons (ps_dput hu (pv 4) pe_str (pe_slice sl_list (pv 5) po_none (po_some (pe_mt (ok_Host_write (P := P) (K := K) W) (hr.mono (by decide)) (pv 0) (pa_cons (pe_dget hu (pv 4) pe_str (fun _ _ => rfl)) (pa_cons (pv 5) pa_nil))))) rfl)
      (pss_cons (ps_if (pt_cmpR op_eq (pe_op op_mod (pe_op op_fdiv (pv 2) pe_int) pe_int) pe_int (nomark _)) (pss_cons (ps_expr (pe_mt (ok_Host_finish (P := P) (K := K) W) (hr.mono (by decide)) (pv 0) (pa_cons (pe_dget hu (pv 4) pe_str (fun _ _ => rfl)) pa_nil)))
      (pss_one (ps_dput hu (pv 4) pe_str pe_bl rfl))) pss_nil)
      (pss_cons (ps_if (pt_cmpR op_eq (pe_op op_mod (pe_op op_fdiv (pv 2) pe_int) pe_int) pe_int (nomark _)) (pss_cons (ps_expr (pe_mt (ok_Host_abort (P := P) (K := K) W) (hr.mono (by decide)) (pv 0) (pa_cons (pe_dget hu (pv 4) pe_str (fun _ _ => rfl)) pa_nil)))
      (pss_one (ps_dput hu (pv 4) pe_str pe_bl rfl))) pss_nil)
      (pss_cons (ps_expr (pe_bm PySem.F.plainAttrs_list PySem.F.slot_list_append PySem.F.type_list_append mt_append (pe_dget hu (pv 1) pe_str (fun _ _ => rfl)) (pa_cons (pv 4) pa_nil)))
      (pss_one (ps_ret (pe_cmpR op_eq (pe_dget hu (pv 4) pe_str (fun _ _ => rfl)) (pe_dget hu (pv 1) pe_str (fun _ _ => rfl)) (nomark _)))))))))))), ?_⟩
    obtain ⟨z1, z2, z3, z4, z5, sub, fr, z6, z7, mo, z8, z9, z10, z11, z12, ba, dst, ek, eq, el⟩ := j
    walk_at "s"
    rename_i e0 f0 a0 fa0
    refine And.intro (by walk_at "look") ⟨[(Sum.inr "port", .int (100 + k)), (Sum.inr "peer", .int (r % 50)), (Sum.inr "peer_port", .int (1 + r / 50 % 65535)), (Sum.inr "finished", .bl false), (Sum.inr "aborted", .bl false), (Sum.inr "octets", .ref a0)], rfl, by show 6 ≤ 15; decide, ?_⟩
    have g1 : Same H (upd (upd (upd H e0 (.dK [])) a0 (.lst [])) e0 (.dK (mergeK [] [(Sum.inr "port", .int (100 + k)), (Sum.inr "peer", .int (r % 50)), (Sum.inr "peer_port", .int (1 + r / 50 % 65535)), (Sum.inr "finished", .bl false), (Sum.inr "aborted", .bl false), (Sum.inr "octets", .ref a0)]))) := by walk_at "same"
    have g2 : (upd (upd (upd H e0 (.dK [])) a0 (.lst [])) e0 (.dK (mergeK [] [(Sum.inr "port", .int (100 + k)), (Sum.inr "peer", .int (r % 50)), (Sum.inr "peer_port", .int (1 + r / 50 % 65535)), (Sum.inr "finished", .bl false), (Sum.inr "aborted", .bl false), (Sum.inr "octets", .ref a0)]))) e0 = some (.dK [(Sum.inr "port", .int (100 + k)), (Sum.inr "peer", .int (r % 50)), (Sum.inr "peer_port", .int (1 + r / 50 % 65535)), (Sum.inr "finished", .bl false), (Sum.inr "aborted", .bl false), (Sum.inr "octets", .ref a0)]) := dk_eq upd_same (by kernel_rfl)
    have g3 : (upd (upd (upd H e0 (.dK [])) a0 (.lst [])) e0 (.dK (mergeK [] [(Sum.inr "port", .int (100 + k)), (Sum.inr "peer", .int (r % 50)), (Sum.inr "peer_port", .int (1 + r / 50 % 65535)), (Sum.inr "finished", .bl false), (Sum.inr "aborted", .bl false), (Sum.inr "octets", .ref a0)]))) a0 = some (.lst []) := by walk_at "look"
    have g4 : e0 ≠ a0 := by walk_at "ne"
    have g5 : H a0 = none := by walk_at "fresh"
    generalize upd (upd (upd H e0 (.dK [])) a0 (.lst [])) e0 (.dK (mergeK [] [(Sum.inr "port", .int (100 + k)), (Sum.inr "peer", .int (r % 50)), (Sum.inr "peer_port", .int (1 + r / 50 % 65535)), (Sum.inr "finished", .bl false), (Sum.inr "aborted", .bl false), (Sum.inr "octets", .ref a0)])) = H1 at g1 g2 g3 ⊢
    clear fa0
    have z7H : OAt K H B.oa B.od o := sub _ _ z7
    have zLH : H B.L = some (.dK (lsV ls)) := sub _ _ z6
    obtain ⟨d1, d2, d3, d4, d5, d6, d7⟩ := dst
    have ba2 := ba
    obtain ⟨b1, b2, b3, b4, b5, b6, b7, b8, b9, b10⟩ := ba2
    have hl : (ks.map fun y => (y.x, y.k)).length = ks.length := List.length_map ..
    have z2' : H B.S = some (.lst ((ks.map fun y => (y.x, y.k)).map fun y => .ref y.1.s)) := by rw [List.map_map]; exact z2
    have zk : ∀ G : Hp, Same H G → SksAt K G (ks.map fun y => (y.x, y.k)) := fun G e y hy => by
      obtain ⟨u, hu2, rfl⟩ := List.mem_map.mp hy
      exact e _ _ (sub _ _ (z11 u hu2).1)
    walk_at "s"
    refine u_Connect (B := B) (g := g) (o := o) (l := ks.map fun y => (y.x, y.k)) (ps := qs.map fun q => .ref q.p) (by walk_at "look") ba ⟨_, by walk_at "look"⟩ (by walk_at "look") ok (by walk_at "look") (by omega) (by omega) (by walk_at "look") (by rw [List.length_map]; omega) ⟨by omega, by omega, by omega, by omega⟩ (by omega) (zk _ (by walk_at "same")) (fun y hy => ?_) ?_
    · obtain ⟨u, hu2, rfl⟩ := List.mem_map.mp hy
      exact (hk u hu2).1
    intro x pp dx oc H2 xn ap xe xs fpp foc e2 hB hS hK hE hP pk
    walk_at "s"
    rename_i H2a e2a h2a H3 e3 h3 Dl fD
    have h3e : H3 e0 = some (.dK (lendV (nkD g r k) false false a0)) := dk_eq (by walk_at "look") (by kernel_rfl)
    have h3w : H3 M.w = some (.dK (worldV M.oa M.L M.E ⟨g.addr, g.ctr + 1, g.now⟩ taken)) := dk_eq h3 (by kernel_rfl)
    obtain ⟨w1, w2, ⟨v1, v2, v3, v4, v5, v6, v7, v8⟩⟩ := xn
    have hB3 : HAt K H3 B ⟨g.addr, g.ctr + 1, g.now⟩ := by walk_at "look"
    have hS3 : H3 B.S = some (.lst ((ks.map fun y => (y.x, y.k)).map (fun y => V.ref y.1.s) ++ [.ref x.s])) := by walk_at "look"
    have hP3 : H3 B.P = some (.lst (qs.map (fun q => V.ref q.p) ++ [.ref pp])) := by walk_at "look"
    have hM3 : H3 M.E = some (.lst (es.map fun y => .ref y.e)) := by walk_at "look"
    have hK3 : KAt K H3 x.s x.sd x.A.e (nkD g r k) := by walk_at "look"
    obtain ⟨x1, x2, x3, x4, x5, x6, x7, x8, x9⟩ := hE
    have hE3 : EndOK K H3 B.oa o x.A (dS o g.now) := ⟨by walk_at "look", by walk_at "look", by walk_at "look", by walk_at "look", by walk_at "look", by walk_at "look", by walk_at "look", by walk_at "look", by walk_at "look"⟩
    obtain ⟨p1, p2⟩ := pk
    have pk3 : PkOK K H3 pp dx oc g.addr (r % 50) (enc g.addr (r % 50) (segO (nkD g r k) o g.now)) := ⟨by walk_at "look", by walk_at "look"⟩
    have g6 : H3 a0 = some (.lst []) := by walk_at "look"
    have kp3 : Kp [B.h, B.S, B.P, M.w] H H3 := by walk_at "kp"
    have ne0 : e0 ≠ x.s := by walk_at "ne"
    have ne1 : e0 ≠ x.A.r := by walk_at "ne"
    have ne2 : e0 ≠ x.A.t := by walk_at "ne"
    have ne3 : e0 ≠ x.A.c := by walk_at "ne"
    have ne4 : e0 ≠ x.A.q := by walk_at "ne"
    have ne5 : e0 ≠ x.A.k := by walk_at "ne"
    have ne6 : e0 ≠ x.A.y := by walk_at "ne"
    have ne7 : e0 ≠ x.A.h := by walk_at "ne"
    have ne8 : e0 ≠ pp := by walk_at "ne"
    have ne9 : e0 ≠ oc := by walk_at "ne"
    have nea : e0 ≠ x.A.s := by walk_at "ne"
    have neb : e0 ≠ x.A.e := by walk_at "ne"
    have nec : a0 ≠ x.A.s := by walk_at "ne"
    have ned : a0 ≠ x.A.e := by walk_at "ne"
    have w1 : H x.s = none := by walk_at "fresh"
    have w2 : H x.A.e = none := by walk_at "fresh"
    have v1 : H x.A.s = none := by walk_at "fresh"
    have v2 : H x.A.r = none := by walk_at "fresh"
    have v3 : H x.A.t = none := by walk_at "fresh"
    have v4 : H x.A.c = none := by walk_at "fresh"
    have v5 : H x.A.q = none := by walk_at "fresh"
    have v6 : H x.A.k = none := by walk_at "fresh"
    have v7 : H x.A.y = none := by walk_at "fresh"
    have v8 : H x.A.h = none := by walk_at "fresh"
    have fpp : H pp = none := by walk_at "fresh"
    have foc : H oc = none := by walk_at "fresh"
    clear e2a h2a e3 h3 e2 hB hS hK hP x1 x2 x3 x4 x5 x6 x7 x8 x9 p1 p2 g1 g2 g3
    refine c_lcR (n := (r / 70 % 30).toNat) rfl (by omega) (fun i ys G => Same H3 G ∧ ys = nis ((List.range i).map fun j : Nat => (r / 19 + 47 * (j : Int)) % 256)) ?_ ?_ ?_ ?_
    · exact ⟨by walk_at "same", rfl⟩
    · exact fun _ => rfl
    · rintro i ys G hi ⟨e, rfl⟩ hD hl
      walk_at "s"
      refine LcE.mk (by omega) hD hl ⟨?_, ?_⟩
      · walk_at "same"
      · rw [List.range_succ]
        simp
    rintro ys G ⟨e5, rfl⟩ hD hl
    walk_at "s"
    have hol : ((List.range (r / 70 % 30).toNat).map fun j : Nat => (r / 19 + 47 * (j : Int)) % 256).length ≤ 29 := by simp; omega
    have hob : ∀ n ∈ ((List.range (r / 70 % 30).toNat).map fun j : Nat => (r / 19 + 47 * (j : Int)) % 256), 0 ≤ n ∧ n < 256 := by
      intro n hn
      obtain ⟨j, _, rfl⟩ := List.mem_map.mp hn
      omega
    generalize ((List.range (r / 70 % 30).toNat).map fun j : Nat => (r / 19 + 47 * (j : Int)) % 256) = os0 at hD hol hob ⊢
    have fR : ∀ b u, F0 b = some u → b ∉ [B.h, B.S, B.P, M.w] := fun b u h m => by
      obtain ⟨r1, r2, r3, r4, r5⟩ := fr
      simp only [List.mem_cons, List.not_mem_nil, or_false] at m
      rcases m with rfl | rfl | rfl | rfl
      · rw [r1] at h; cases h
      · rw [r2] at h; cases h
      · rw [r3] at h; cases h
      · rw [r4] at h; cases h
    have sub3 : Same F0 H3 := fun b u h => kp3 b u (sub b u h) (fR b u h)
    have hm' : ((ks.map fun y => (y.x, y.k)) ++ [(x, nkD g r k)]).map (fun y => V.ref y.1.s) = (ks.map fun y => (y.x, y.k)).map (fun y => V.ref y.1.s) ++ [.ref x.s] := by simp
    have mkH : ∀ (G : Hp) (A : EA) (d : EndD), A.e = x.A.e → A.s = x.A.s → A.Ap → d.nxt = 1 → (∃ z, d.alarm = .int z) → Same F0 G → HAt K G B ⟨g.addr, g.ctr + 1, g.now⟩ → G B.S = some (.lst ((ks.map fun y => (y.x, y.k)).map (fun y => V.ref y.1.s) ++ [.ref x.s])) → KAt K G x.s x.sd x.A.e (nkD g r k) → EndOK K G B.oa o A d →
        HxOK K G B ⟨g.addr, g.ctr + 1, g.now⟩ o ((ks.map fun y => (y.x, y.k)) ++ [(⟨x.s, x.sd, A⟩, nkD g r k)]) (⟨x.s, x.sd, A⟩, nkD g r k) d := by
      intro G A d ae as aap nx al sG hB hS hK hE
      refine ⟨hB, ?_, ?_, by simp, ?_, sG _ _ z7, hE, aap, nx, al, ?_, ?_, ?_, ?_, ?_, ?_⟩
      · rw [hS]; simp
      · intro y hy
        rcases List.mem_append.mp hy with hy | hy
        · obtain ⟨u, hu2, rfl⟩ := List.mem_map.mp hy
          exact sG _ _ (z11 u hu2).1
        · obtain rfl := List.mem_singleton.mp hy
          show KAt K G x.s x.sd A.e (nkD g r k)
          rw [ae]
          exact hK
      · intro y hy hc
        rcases List.mem_append.mp hy with hy | hy
        · obtain ⟨u, hu2, rfl⟩ := List.mem_map.mp hy
          have h1 := (hk u hu2).2
          have h2 : u.k.cnt = g.ctr + 1 := hc
          omega
        · obtain rfl := List.mem_singleton.mp hy
          rfl
      · show B.h ≠ A.e
        rw [ae]
        walk_at "ne"
      · show B.h ≠ A.s
        rw [as]
        walk_at "ne"
      · show x.s ≠ A.e
        rw [ae]
        exact xe
      · show x.s ≠ A.s
        rw [as]
        exact xs
      · show B.oa ≠ A.e
        rw [ae]
        walk_at "ne"
      · show B.oa ≠ A.s
        rw [as]
        walk_at "ne"
    obtain ⟨x1, x2, x3, x4, x5, x6, x7, x8, x9⟩ := hE3
    obtain ⟨p1, p2⟩ := pk3
    have np1 : pp ≠ x.A.s := kind_neq p1 x2 (by kernel_rfl)
    have np2 : pp ≠ x.A.e := kind_neq p1 x1 (by kernel_rfl)
    have np3 : oc ≠ x.A.s := kind_neq p2 x2 (by kernel_rfl)
    have np4 : oc ≠ x.A.e := kind_neq p2 x1 (by kernel_rfl)
    have hx := mkH G x.A (dS o g.now) rfl rfl ap rfl ⟨_, rfl⟩ (by walk_at "same") (by walk_at "look") (by walk_at "look") (by walk_at "look") ⟨by walk_at "look", by walk_at "look", by walk_at "look", by walk_at "look", by walk_at "look", by walk_at "look", by walk_at "look", by walk_at "look", by walk_at "look"⟩
    refine u_HWrite (x := (⟨x.s, x.sd, x.A⟩, nkD g r k)) (d := dS o g.now) (ns := os0) hx rfl rfl (by walk_at "look") (by simp) (by omega) ?_
    intro q1 G1 fq1 e6 hE6
    obtain ⟨t0, t1⟩ := EndD.tk0 o (dS o g.now) os0
    have hcut := cut_hi (nis os0) (EndD.tk o (dS o g.now) os0).toNat (i := EndD.tk o (dS o g.now) os0) (by omega)
    refine c_parti ?_
    refine c_slL (by walk_at "look") ?_
    rw [hcut, nis_take]
    intro aL faL
    walk_at "s"
    rename_i H6 e7 h7
    have hE6 : EndOK K G1 B.oa o (x.A.setq q1) (dF o g.now (os0.take (EndD.tk o (dS o g.now) os0).toNat) false false) := hE6
    obtain ⟨y1, y2, y3, y4, y5, y6, y7, y8, y9⟩ := hE6
    have Z : LS K H F0 H6 B M g o taken (((ks.map fun y => (y.x, y.k)).map fun y => V.ref y.1.s)) (qs.map fun q => V.ref q.p) (es.map fun y => V.ref y.e) x (x.A.setq q1) (nkD g r k) e0 aL (os0.take (EndD.tk o (dS o g.now) os0).toNat) pp dx oc false false :=
      ⟨by walk_at "look", by walk_at "look", by walk_at "look", by walk_at "look", by walk_at "look", dk_eq h7 (by kernel_rfl), by walk_at "look", by walk_at "look", ⟨by walk_at "look", by walk_at "look", by walk_at "look", by walk_at "look", by walk_at "look", by walk_at "look", by walk_at "look", by walk_at "look", by walk_at "look"⟩, ⟨by walk_at "look", by walk_at "look"⟩, by walk_at "kp", by walk_at "same"⟩
    have na1 : aL ≠ x.A.e := by walk_at "ne"
    have na2 : aL ≠ x.A.s := by walk_at "ne"
    have na3 : aL ≠ e0 := by walk_at "ne"
    have nq1 : q1 ≠ x.A.e := by walk_at "ne"
    have nq2 : q1 ≠ x.A.s := by walk_at "ne"
    have nq3 : q1 ≠ e0 := by walk_at "ne"
    have hq1 : H q1 = none := by walk_at "fresh"
    have haL : H aL = none := by walk_at "fresh"
    have ap' : (x.A.setq q1).Ap := by
      obtain ⟨c1, c2, c3, c4, c5, c6, c7, c8, c9, c10, c11, c12, c13, c14, c15⟩ := ap
      exact ⟨c1, c2, c3, c4, nq1, c6, c7, c8, c9, c10, c11, nq2, c13, c14, c15⟩
    obtain ⟨c1', c2', c3', c4', c5', c6', c7', c8', c9', c10', c11', c12', c13', c14', c15'⟩ := ap
    have ol : (os0.take (EndD.tk o (dS o g.now) os0).toNat).length ≤ 29 := by rw [List.length_take]; omega
    have ob : ∀ n ∈ os0.take (EndD.tk o (dS o g.now) os0).toNat, 0 ≤ n ∧ n < 256 := fun n hn => hob n (List.mem_of_mem_take hn)
    generalize os0.take (EndD.tk o (dS o g.now) os0).toNat = os at Z ol ob
    clear y1 y2 y3 y4 y5 y6 y7 y8 y9 e7 h7 faL e6 fq1 hx hcut t0 t1 x1 x2 x3 x4 x5 x6 x7 x8 x9 p1 p2 hD hob hol e5 h3e h3w hB3 hS3 hP3 hM3 hK3 g6 kp3 sub3 fD
    have step : ∀ (G G' G'' : Hp) (fin ab fin' ab' : Bool), LS K H F0 G B M g o taken (((ks.map fun y => (y.x, y.k)).map fun y => V.ref y.1.s)) (qs.map fun q => V.ref q.p) (es.map fun y => V.ref y.e) x (x.A.setq q1) (nkD g r k) e0 aL os pp dx oc fin ab → Kp [x.A.e, x.A.s] G G' → EndOK K G' B.oa o (x.A.setq q1) (dF o g.now os fin' ab') → Kp [e0] G' G'' → G'' e0 = some (.dK (lendV (nkD g r k) fin' ab' aL)) → LS K H F0 G'' B M g o taken (((ks.map fun y => (y.x, y.k)).map fun y => V.ref y.1.s)) (qs.map fun q => V.ref q.p) (es.map fun y => V.ref y.e) x (x.A.setq q1) (nkD g r k) e0 aL os pp dx oc fin' ab' := by
      rintro G G' G'' fin ab fin' ab' ⟨hB, hS, hP, hM, hw, he, ha, hK, hE, ⟨pk1, pk2⟩, kp, sb⟩ ee hE' e3 h3
      obtain ⟨y1, y2, y3, y4, y5, y6, y7, y8, y9⟩ := hE'
      exact ⟨by walk_at "look", by walk_at "look", by walk_at "look", by walk_at "look", by walk_at "look", h3, by walk_at "look", by walk_at "look", ⟨by walk_at "look", by walk_at "look", by walk_at "look", by walk_at "look", by walk_at "look", by walk_at "look", by walk_at "look", by walk_at "look", by walk_at "look"⟩, ⟨by walk_at "look", by walk_at "look"⟩, by walk_at "kp", by walk_at "same"⟩
    refine c_split (fun σ' G => σ' = [some (.ref B.h), some (.ref M.w), some (.int r), some (.int k), some (.ref e0), some (.ref Dl), none] ∧ ∃ fin, LS K H F0 G B M g o taken (((ks.map fun y => (y.x, y.k)).map fun y => V.ref y.1.s)) (qs.map fun q => V.ref q.p) (es.map fun y => V.ref y.e) x (x.A.setq q1) (nkD g r k) e0 aL os pp dx oc fin false) ?_ ?_ ?_
    · rintro σ' G ⟨rfl, fin, Z⟩
      have z1' := z1
      have z2' := z2
      have z1 := Z.hB
      have z2 := Z.he
      walk_at "s"
      refine c_split (fun σ' G => σ' = [some (.ref B.h), some (.ref M.w), some (.int r), some (.int k), some (.ref e0), some (.ref Dl), none] ∧ ∃ ab, LS K H F0 G B M g o taken (((ks.map fun y => (y.x, y.k)).map fun y => V.ref y.1.s)) (qs.map fun q => V.ref q.p) (es.map fun y => V.ref y.e) x (x.A.setq q1) (nkD g r k) e0 aL os pp dx oc fin ab) ?_ ?_ ?_
      · rintro σ' G ⟨rfl, ab, Z⟩
        obtain ⟨hB, hS, hP, hM, hw, he, ha, hK, hE, ⟨pk1, pk2⟩, kp, sb⟩ := Z
        obtain ⟨y1, y2, y3, y4, y5, y6, y7, y8, y9⟩ := hE
        walk_at "s"
        have hG : ∃ Hf, Hf = upd G M.E (.lst (es.map (fun y => V.ref y.e) ++ [.ref e0])) := ⟨_, rfl⟩
        obtain ⟨Hf, hHf⟩ := hG
        rw [← hHf]
        have kf : Kp [M.E] G Hf := by rw [hHf]; walk_at "kp"
        have hEf : Hf M.E = some (.lst (es.map (fun y => V.ref y.e) ++ [.ref e0])) := by rw [hHf]; exact upd_same
        clear hHf step mkH
        have nR : ∀ b, H b = none → b ∉ [B.h, B.S, B.P, M.w, M.E] := fun b hb m => by
          simp only [List.mem_cons, List.not_mem_nil, or_false] at m
          rcases m with rfl | rfl | rfl | rfl | rfl
          · rw [z1'] at hb; cases hb
          · rw [z2'] at hb; cases hb
          · rw [z3] at hb; cases hb
          · rw [z4] at hb; cases hb
          · rw [z5] at hb; cases hb
        have fR5 : ∀ b u, F0 b = some u → b ∉ [B.h, B.S, B.P, M.w, M.E] := fun b u h m => by
          obtain ⟨r1, r2, r3, r4, r5⟩ := fr
          simp only [List.mem_cons, List.not_mem_nil, or_false] at m
          rcases m with rfl | rfl | rfl | rfl | rfl
          · rw [r1] at h; cases h
          · rw [r2] at h; cases h
          · rw [r3] at h; cases h
          · rw [r4] at h; cases h
          · rw [r5] at h; cases h
        have nE : ∀ b, b ∉ [B.h, B.S, B.P, M.w, M.E] → b ∉ [M.E] := fun b hb m => hb (by rw [List.mem_singleton.mp m]; simp)
        have sF : Same F0 (cutR [B.h, B.S, B.P, M.w, M.E] Hf) := fun b u h => cut_at (kf b u (sb b u h) (nE b (fR5 b u h))) (fR5 b u h)
        have cN : ∀ b u, H b = none → G b = some u → cutR [B.h, B.S, B.P, M.w, M.E] Hf b = some u := fun b u hb h => cut_at (kf b u h (nE b (nR b hb))) (nR b hb)
        refine lk_v (q ⟨⟨x.s, x.sd, x.A.setq q1⟩, nkD g r k, dF o g.now os fin ab⟩ ⟨pp, dx, oc, g.addr, (nkD g r k).peer, enc g.addr (nkD g r k).peer (segO (nkD g r k) o g.now)⟩ ⟨e0, aL, nkD g r k, fin, ab, os⟩ (cutR [B.h, B.S, B.P, M.w, M.E] Hf) Hf rfl (by show os.length ≤ 30; omega) ob ?_ (fun b u h n => kf b u (kp b u h (fun m => n (by simp only [List.mem_cons, List.not_mem_nil, or_false] at m ⊢; rcases m with m | m | m | m <;> simp [m]))) (nE b n))) (by simp)
        have ag : ∀ {α : Type} {l : List α} {y z : α} {p : α → Prop}, (∀ u ∈ l, p u) → p z → ∀ u ∈ l ++ [z], p u := fun h1 h2 u hu => by
          rcases List.mem_append.mp hu with hu | hu
          · exact h1 u hu
          · rw [List.mem_singleton.mp hu]; exact h2
        exact {
          h := kf _ _ hB (by simp; exact fun e => d5 e.symm)
          S := lk_eq (kf _ _ hS (by simp; exact fun e => d6 e.symm)) (by simp)
          P := lk_eq (kf _ _ hP (by simp; exact fun e => d7 e.symm)) (by simp)
          hw := kf _ _ hw (by simp; exact d1)
          hE := lk_eq hEf (by simp)
          sub := cut_sub
          fr := by simp [cutR]
          L := sF _ _ z6
          oa := sF _ _ z7
          mo := mo
          wL := sF _ _ z8
          aL := fun y hy => sF _ _ (z9 y hy)
          aE := ag (y := ⟨e0, aL, nkD g r k, fin, ab, os⟩) (fun u hu => ⟨sF _ _ (z10 u hu).he, sF _ _ (z10 u hu).ha⟩) ⟨cN _ _ f0 he, cN _ _ haL ha⟩
          kA := ag (y := ⟨⟨x.s, x.sd, x.A.setq q1⟩, nkD g r k, dF o g.now os fin ab⟩) (fun u hu => ⟨sF _ _ (z11 u hu).1, by
            obtain ⟨u1, u2, u3, u4, u5, u6, u7, u8, u9⟩ := (z11 u hu).2
            exact ⟨sF _ _ u1, sF _ _ u2, sF _ _ u3, sF _ _ u4, sF _ _ u5, sF _ _ u6, sF _ _ u7, sF _ _ u8, sF _ _ u9⟩⟩) ⟨cN _ _ w1 hK, ⟨cN _ _ w2 y1, cN _ _ v1 y2, cN _ _ v2 y3, cN _ _ v3 y4, cN _ _ v4 y5, cN _ _ hq1 y6, cN _ _ v6 y7, cN _ _ v7 y8, cN _ _ v8 y9⟩⟩
          pA := ag (y := ⟨pp, dx, oc, g.addr, (nkD g r k).peer, enc g.addr (nkD g r k).peer (segO (nkD g r k) o g.now)⟩) (fun u hu => ⟨sF _ _ (z12 u hu).hp, sF _ _ (z12 u hu).ho⟩) ⟨cN _ _ fpp pk1, cN _ _ foc pk2⟩
          ba := ba
          dst := ⟨d1, d2, d3, d4, d5, d6, d7⟩
          ek := by rw [List.map_append, List.map_append, ek]; rfl
          eq := by rw [List.map_append, List.map_append, eq]; rfl
          el := el }
      · intro c1 N jn
        have hx := mkH G (x.A.setq q1) (dF o g.now os fin false) rfl rfl ap' rfl ⟨_, rfl⟩ Z.sub Z.hB Z.hS Z.hK Z.hE
        walk_at "s"
        refine u_HAbort (x := (⟨x.s, x.sd, x.A.setq q1⟩, nkD g r k)) (d := dF o g.now os fin false) hx rfl ?_
        intro G' e1 hE1
        have z2' : G' e0 = some (.dK (lendV (nkD g r k) fin false aL)) := by walk_at "look"
        walk_at "s"
        rename_i G2 e2 h2
        exact jn _ _ ⟨rfl, true, step G G' G2 fin false fin true Z e1 hE1 e2 (dk_eq h2 (by kernel_rfl))⟩
      · intro c1 N jn
        walk_at "s"
        exact jn _ _ ⟨rfl, false, Z⟩
    · intro c1 N jn
      have hx := mkH H6 (x.A.setq q1) (dF o g.now os false false) rfl rfl ap' rfl ⟨_, rfl⟩ Z.sub Z.hB Z.hS Z.hK Z.hE
      have z1 := Z.hB
      have z2 := Z.he
      walk_at "s"
      refine u_HFinish (x := (⟨x.s, x.sd, x.A.setq q1⟩, nkD g r k)) (d := dF o g.now os false false) hx rfl rfl ?_
      intro G' e1 hE1
      have z2' : G' e0 = some (.dK (lendV (nkD g r k) false false aL)) := by walk_at "look"
      walk_at "s"
      rename_i G2 e2 h2
      exact jn _ _ ⟨rfl, true, step H6 G' G2 false false true false Z e1 hE1 e2 (dk_eq h2 (by kernel_rfl))⟩
    · intro c1 N jn
      walk_at "s"
      exact jn _ _ ⟨rfl, false, Z⟩
theorem ok__law_socket (W : Wld K mg) : GFn P w K mg base "_law_socket" 17 ["_law_host", "_law_world", "_law_row", "_law_k"] (spSock K) := by
  obtain ⟨fd, F1, F⟩ := fo__law_socket (P := P) (w := w) (base := base) W
  exact ⟨⟨_, fd, F1, W.g__law_socket, F.kp, F.bindsN fun _ _ _ _ _ _ us hl => match us, hl with | [_, _, _, _], _ => rfl⟩⟩
end
end
/-! part D36 -/
section
set_option maxHeartbeats 1000000
open PySem PySem.Spec PyProof.Rows L2 ClX TL

section
variable {P : Program} [PrOk P] {w : World} {K : PySem.W.Frag} {mg : Str → Option Value} {base : Heap}
/-- what the build draws of the rows -/
structure BOk (g : HD) (ls : List (Int × Int)) : Prop where
  a1 : 60 ≤ g.addr
  a2 : g.addr < 100000
  n1 : 0 ≤ g.now
  n2 : g.now < 100000
  c1 : 0 ≤ g.ctr
  c2 : g.ctr ≤ 3
  l : ls.length ≤ 2
  d : (ls.map (·.1)).Nodup
  v : ∀ p ∈ ls, 0 ≤ p.1 ∧ p.1 < 100000 ∧ 0 ≤ p.2 ∧ p.2 < 100000
def RBuild (K : PySem.W.Frag) (H : Hp) (Q : VK) : Prop := ∀ (B : HA) (M : WA) (g : HD) (o : OptD) (ls : List (Int × Int)) (lw : List (Addr × (Int × Int))) (taken : Bool) (F : Hp) (p : Addr) H', o.Ok → BOk g ls → Same H H' → JOk K H' B M g o ls lw [] [] [] taken F → H' p = some (.lst [.ref B.h, .ref M.w]) → (∀ b ∈ [B.h, B.S, B.P, M.w, M.E], H b = none) → Q (.ref p) H'
def spBuild (K : PySem.W.Frag) : Sp := fun vs H Q _ => ∃ (a : Addr) (r0 r1 r2 r3 r4 r5 : Int), vs = [.ref a] ∧ H a = some (.lst (nis [r0, r1, r2, r3, r4, r5])) ∧ RBuild K H Q
local macro_rules | `(tactic| walk_at "s1") => `(tactic| first
  | (with_reducible refine c_disp ?_)
  | (with_reducible refine c_pairs ?_)
  | (with_reducible refine c_pairn ?_)
  | (show spLOpt _ _ _ _ _; refine u_LOpt ?_)
  | ((with_reducible show RLOpt _ _ _); intro t9 t8 t7 H9 k9 f9 e9 h9))
abbrev N__law_build : List Str := ["_law_rows_here", "_law_options_here", "_law_world", "_law_host", "_law_k", "_law_pair"]
theorem sc__law_build : FnScope N__law_build ["_law_rows_here"] (defScope s__law_build) := ⟨rfl, rfl, rfl, by decide +kernel, rfl, by decide +kernel, by decide +kernel⟩
theorem fo__law_build (W : Wld K mg) : ∃ fd, FnOk P w K mg base CX0 17 (pl__law_build.ad K) fd ["_law_rows_here"] (spBuild K) ∧ FunD K "_law_build" "_law_build" (defArgs s__law_build) (defBody s__law_build) (defScope s__law_build) [] [] (pl__law_build.ad K) fd := by
  obtain ⟨fd, F⟩ := W.d__law_build
  refine ⟨fd, F.ok sc__law_build (fun vs H Q E h => ?_) (fun cdv A outer s H vs Q E hr h => ?_), F⟩
  · obtain ⟨a, r0, r1, r2, r3, r4, r5, rfl, z1, q⟩ := h; rfl
  · obtain ⟨a, r0, r1, r2, r3, r4, r5, rfl, z1, q⟩ := h
    have hu := hu_of hr
    refine ⟨_, PSs.nox (pss_cons (ps_set (i := 1) sc__law_build.nd rfl (Or.inl rfl) (pe_fn (ok__law_options (P := P) (K := K) W) (hr.mono (by decide)) (by rfl) (pa_cons (pe_ix ix_list (pv 0) pe_int (fun _ _ => rfl)) pa_nil)))
      (pss_cons (ps_set (i := 2) sc__law_build.nd rfl (Or.inl rfl) (pe_disp (pps_cons pe_str (pv 1) (pps_cons pe_str (pe_op op_add pe_int (pe_op op_mod (pe_callTy call_int1 (by rfl) W.f_int bt_int (pa_cons (pe_ix ix_list (pv 0) pe_int (fun _ _ => rfl)) pa_nil)) pe_int)) (pps_cons pe_str (pe_op op_mod (pe_callTy call_int1 (by rfl) W.f_int bt_int (pa_cons (pe_op op_fdiv (pe_ix ix_list (pv 0) pe_int (fun _ _ => rfl)) pe_int) pa_nil)) pe_int) (pps_cons pe_str (pe_op op_mod (pe_callTy call_int1 (by rfl) W.f_int bt_int (pa_cons (pe_ix ix_list (pv 0) pe_int (fun _ _ => rfl)) pa_nil)) pe_int) (pps_cons pe_str (pe_lst pa_nil) (pps_cons pe_str (pe_lst pa_nil) (pps_cons pe_str (pe_cmpR op_eq (pe_op op_mod (pe_op op_fdiv (pe_ix ix_list (pv 0) pe_int (fun _ _ => rfl)) pe_int) pe_int) pe_int (nomark _)) pps_nil))))))) (by rfl) (by rfl) (fun z => by cases z) (by decide)))
      (pss_cons (ps_set (i := 3) sc__law_build.nd rfl (Or.inl rfl) (pe_mk (ok_Host_make (P := P) (K := K) W) (hr.mono (by decide)) (by rfl) (pa_cons (pe_dget hu (pv 2) pe_str (fun _ _ => rfl)) (pa_cons (pv 1) pa_nil))))
      (pss_cons (ps_for PassesOwn.never rfl (pi_range1 rfl W.f_range (pa_cons (pe_dget hu (pv 2) pe_str (fun _ _ => rfl)) pa_nil)) (pg_name (i := 4) sc__law_build.nd rfl (Or.inl rfl)) (pss_one (ps_expr (pe_mt (ok_Host_connect (P := P) (K := K) W) (hr.mono (by decide)) (pv 3) (pa_cons (pe_op op_add pe_int (pv 4)) (pa_cons pe_int (pa_cons pe_int pa_nil)))))))
      (pss_cons (ps_expr (pe_mt0 (ok_Host_restart (P := P) (K := K) W) (hr.mono (by decide)) (pv 3)))
      (pss_cons (ps_expr (pe_mt (ok_Host_tick (P := P) (K := K) W) (hr.mono (by decide)) (pv 3) (pa_cons (pe_dget hu (pv 2) pe_str (fun _ _ => rfl)) pa_nil)))
      (pss_cons (ps_for PassesOwn.never rfl (pi_range1 rfl W.f_range (pa_cons (pe_op op_mod (pe_callTy call_int1 (by rfl) W.f_int bt_int (pa_cons (pe_op op_fdiv (pe_ix ix_list (pv 0) pe_int (fun _ _ => rfl)) pe_int) pa_nil)) pe_int) pa_nil)) (pg_name (i := 4) sc__law_build.nd rfl (Or.inl rfl)) (pss_cons (ps_set (i := 5) sc__law_build.nd rfl (Or.inl rfl) (pe_lst (pa_cons (pe_op op_add (pe_op op_sub pe_int (pe_op op_mul pe_int (pv 4))) (pe_op op_mod (pe_callTy call_int1 (by rfl) W.f_int bt_int (pa_cons (pe_op op_fdiv (pe_ix ix_list (pv 0) pe_int (fun _ _ => rfl)) pe_int) pa_nil)) pe_int)) (pa_cons (pe_op op_add pe_int (pe_op op_mod (pe_callTy call_int1 (by rfl) W.f_int bt_int (pa_cons (pe_op op_add (pe_op op_fdiv (pe_ix ix_list (pv 0) pe_int (fun _ _ => rfl)) pe_int) (pv 4)) pa_nil)) pe_int)) pa_nil))))
      (pss_cons (ps_expr (pe_mtK (ok_Host_listen_k (P := P) (K := K) W) (hr.mono (by decide)) (pv 3) (pa_cons (pe_ix ix_list (pv 5) pe_int (fun _ _ => rfl)) pa_nil) (pk_cons (pe_ix ix_list (pv 5) pe_int (fun _ _ => rfl)) pk_nil)))
      (pss_one (ps_expr (pe_bm PySem.F.plainAttrs_list PySem.F.slot_list_append PySem.F.type_list_append mt_append (pe_dget hu (pv 2) pe_str (fun _ _ => rfl)) (pa_cons (pv 5) pa_nil)))))))
      (pss_one (ps_ret (pe_lst (pa_cons (pv 3) (pa_cons (pv 2) pa_nil)))))))))))), ?_⟩
    have z1 : H a = some (.lst [.int r0, .int r1, .int r2, .int r3, .int r4, .int r5]) := z1
    walk_at "s"
    rename_i oa od o H1 ok f1 e1 h1 wd fw Lr fL Er fE
    refine And.intro (by walk_at "look") ⟨[(Sum.inr "options", .ref oa), (Sum.inr "address", .int (60 + r1 % 60000)), (Sum.inr "now", .int (r1 / 60000 % 100000)), (Sum.inr "counter", .int (r2 % 4)), (Sum.inr "listeners", .ref Lr), (Sum.inr "ends", .ref Er), (Sum.inr "taken", .bl (decide (V.int (r2 / 4 % 3) = V.int 0)))], rfl, by show 7 ≤ 15; decide, ?_⟩
    have g1 : Same H1 (upd (upd (upd (upd H1 wd (.dK [])) Lr (.lst [])) Er (.lst [])) wd (.dK (mergeK [] [(Sum.inr "options", .ref oa), (Sum.inr "address", .int (60 + r1 % 60000)), (Sum.inr "now", .int (r1 / 60000 % 100000)), (Sum.inr "counter", .int (r2 % 4)), (Sum.inr "listeners", .ref Lr), (Sum.inr "ends", .ref Er), (Sum.inr "taken", .bl (decide (V.int (r2 / 4 % 3) = V.int 0)))]))) := by walk_at "same"
    have g2 : (upd (upd (upd (upd H1 wd (.dK [])) Lr (.lst [])) Er (.lst [])) wd (.dK (mergeK [] [(Sum.inr "options", .ref oa), (Sum.inr "address", .int (60 + r1 % 60000)), (Sum.inr "now", .int (r1 / 60000 % 100000)), (Sum.inr "counter", .int (r2 % 4)), (Sum.inr "listeners", .ref Lr), (Sum.inr "ends", .ref Er), (Sum.inr "taken", .bl (decide (V.int (r2 / 4 % 3) = V.int 0)))]))) wd = some (.dK (worldV oa Lr Er ⟨60 + r1 % 60000, r2 % 4, r1 / 60000 % 100000⟩ (decide (V.int (r2 / 4 % 3) = V.int 0)))) := dk_eq upd_same (by kernel_rfl)
    have g3 : (upd (upd (upd (upd H1 wd (.dK [])) Lr (.lst [])) Er (.lst [])) wd (.dK (mergeK [] [(Sum.inr "options", .ref oa), (Sum.inr "address", .int (60 + r1 % 60000)), (Sum.inr "now", .int (r1 / 60000 % 100000)), (Sum.inr "counter", .int (r2 % 4)), (Sum.inr "listeners", .ref Lr), (Sum.inr "ends", .ref Er), (Sum.inr "taken", .bl (decide (V.int (r2 / 4 % 3) = V.int 0)))]))) Lr = some (.lst []) := by walk_at "look"
    have g4 : (upd (upd (upd (upd H1 wd (.dK [])) Lr (.lst [])) Er (.lst [])) wd (.dK (mergeK [] [(Sum.inr "options", .ref oa), (Sum.inr "address", .int (60 + r1 % 60000)), (Sum.inr "now", .int (r1 / 60000 % 100000)), (Sum.inr "counter", .int (r2 % 4)), (Sum.inr "listeners", .ref Lr), (Sum.inr "ends", .ref Er), (Sum.inr "taken", .bl (decide (V.int (r2 / 4 % 3) = V.int 0)))]))) Er = some (.lst []) := by walk_at "look"
    have g5 : wd ≠ Lr := by walk_at "ne"
    have g6 : wd ≠ Er := by walk_at "ne"
    have g7 : Lr ≠ Er := by walk_at "ne"
    generalize upd (upd (upd (upd H1 wd (.dK [])) Lr (.lst [])) Er (.lst [])) wd (.dK (mergeK [] [(Sum.inr "options", .ref oa), (Sum.inr "address", .int (60 + r1 % 60000)), (Sum.inr "now", .int (r1 / 60000 % 100000)), (Sum.inr "counter", .int (r2 % 4)), (Sum.inr "listeners", .ref Lr), (Sum.inr "ends", .ref Er), (Sum.inr "taken", .bl (decide (V.int (r2 / 4 % 3) = V.int 0)))])) = H2 at g1 g2 g3 g4 ⊢
    have fwd : H wd = none := by walk_at "fresh"
    have fLr : H Lr = none := by walk_at "fresh"
    have fEr : H Er = none := by walk_at "fresh"
    clear fw fL fE
    walk_at "s"
    rename_i hh hd fh fhd nh
    refine u_HostI (by walk_at "look") ?_
    intro L S PP H3 fL fS fP nL nS nP nLS nLP nSP e3 h3 hL3 hS3 hP3
    have h3 : H3 hh = some (.ins (He.ga K "Host") hd (RHost.fs ⟨.int (60 + r1 % 60000), .ref oa, .int 0, .int 0, .ref L, .ref S, .ref PP⟩)) := h3
    have k1 : H3 wd = some (.dK (worldV oa Lr Er ⟨60 + r1 % 60000, r2 % 4, r1 / 60000 % 100000⟩ (decide (V.int (r2 / 4 % 3) = V.int 0)))) := by walk_at "look"
    have k2 : H3 Lr = some (.lst []) := by walk_at "look"
    have k3 : H3 Er = some (.lst []) := by walk_at "look"
    have k4 : OAt K H3 oa od o := by walk_at "look"
    have e4 : Same H H3 := by walk_at "same"
    have z13 : H3 a = some (.lst [.int r0, .int r1, .int r2, .int r3, .int r4, .int r5]) := by walk_at "look"
    have m1 : wd ≠ hh := by walk_at "ne"
    have m2 : wd ≠ S := by walk_at "ne"
    have m3 : wd ≠ PP := by walk_at "ne"
    have m4 : Er ≠ hh := by walk_at "ne"
    have m5 : Er ≠ S := by walk_at "ne"
    have m6 : Er ≠ PP := by walk_at "ne"
    have m7 : Lr ≠ hh := by walk_at "ne"
    have m8 : Lr ≠ S := by walk_at "ne"
    have m9 : Lr ≠ PP := by walk_at "ne"
    have q1 : oa ≠ hh := by walk_at "ne"
    have q2 : oa ≠ S := by walk_at "ne"
    have q3 : oa ≠ PP := by walk_at "ne"
    have q4 : oa ≠ L := by walk_at "ne"
    have a1 : a ≠ hh := by walk_at "ne"
    have a2 : a ≠ S := by walk_at "ne"
    have a3 : a ≠ PP := by walk_at "ne"
    have fhh : H hh = none := by walk_at "fresh"
    have fSS : H S = none := by walk_at "fresh"
    have fPP : H PP = none := by walk_at "fresh"
    clear e3 fL fS fP g1 g2 g3 g4 fh fhd e1 h1
    refine And.intro rfl ?_
    have ba : HA.Ap ⟨hh, hd, oa, od, L, S, PP⟩ := ⟨nS.symm, nP.symm, nL.symm, nSP, nLS.symm, nLP.symm, q1, q2, q3, q4⟩
    walk_at "s"
    refine ⟨r2 % 4, rfl, by omega, by omega, ?_⟩
    refine c_loopR (n := (r2 % 4).toNat) rfl (fun i σ G => (∃ v, σ = [some (.ref a), some (.ref oa), some (.ref wd), some (.ref hh), v, none]) ∧ Kp [hh, S, PP] H3 G ∧ ∃ (l : List (SkA × SkD)) (ps : List V), l.length = i ∧ ps.length = i ∧ HAt K G ⟨hh, hd, oa, od, L, S, PP⟩ ⟨60 + r1 % 60000, (i : Int), 0⟩ ∧ G S = some (.lst (l.map fun y => .ref y.1.s)) ∧ G PP = some (.lst ps) ∧ SksAt K G l ∧ ∀ y ∈ l, y.2.port < 5 + (i : Int)) ?_ ?_ ?_
    · exact ⟨⟨_, rfl⟩, by walk_at "kp", [], [], rfl, rfl, h3, hS3, hP3, (fun y hy => by cases hy), (fun y hy => by cases hy)⟩
    · rintro i σ G hi ⟨⟨v, rfl⟩, kp, l, ps, hl, hpl, hB, hS, hP, hK, hp⟩
      have zL : G L = some (.dK []) := by walk_at "look"
      have zO : OAt K G oa od o := by walk_at "look"
      walk_at "s"
      refine u_Connect (B := ⟨hh, hd, oa, od, L, S, PP⟩) (g := ⟨60 + r1 % 60000, (i : Int), 0⟩) (o := o) (l := l) (ps := ps) hB ba ⟨_, zL⟩ zO ok hS (by omega) (by show (i : Int) < 1000; omega) hP (by omega) ⟨by omega, by omega, by omega, by omega⟩ (by show (3 : Int) ≠ 60 + r1 % 60000; omega) hK (fun y hy => by have := hp y hy; omega) ?_
      intro x pp dx oc G2 xn xap xe xs fpp foc e2 hB2 hS2 hK2 hE2 hP2 pk2
      walk_at "s"
      have ec : ((i + 1 : Nat) : Int) = (i : Int) + 1 := by omega
      have hB2 : G2 hh = some (.ins (He.ga K "Host") hd (RHost.fs (HA.r ⟨hh, hd, oa, od, L, S, PP⟩ ⟨60 + r1 % 60000, (i : Int) + 1, 0⟩))) := hB2
      refine ⟨⟨_, rfl⟩, fun b u hb n => e2 b u (kp b u hb n) n, l ++ [(x, ⟨(i : Int) + 1, 5 + (i : Int), 3, 4⟩)], ps ++ [.ref pp], by simp [hl], by simp [hpl], ?_, lk_eq hS2 (by simp), hP2, ?_, ?_⟩
      · rw [ec]
        exact hB2
      · intro y hy
        rcases List.mem_append.mp hy with hy | hy
        · have z := hK y hy
          refine e2 _ _ z ?_
          have n1 := kind_neq z hB (by kernel_rfl)
          have n2 := kind_neq z hS (by kernel_rfl)
          have n3 := kind_neq z hP (by kernel_rfl)
          simp only [List.mem_cons, List.not_mem_nil, or_false, not_or]
          exact ⟨n1, n2, n3⟩
        · rw [List.mem_singleton.mp hy]
          exact hK2
      · intro y hy
        rw [ec]
        rcases List.mem_append.mp hy with hy | hy
        · have := hp y hy
          omega
        · rw [List.mem_singleton.mp hy]
          show 5 + (i : Int) < 5 + ((i : Int) + 1)
          omega
    · rintro σ G ⟨⟨v, rfl⟩, kp, l, ps, hl, hpl, hB, hS, hP, hK, hp⟩
      have hcn : ((r2 % 4).toNat : Int) = r2 % 4 := by omega
      rw [hcn] at hB
      clear hp hl hpl hK hS hP
      have j1 : G wd = some (.dK (worldV oa Lr Er ⟨60 + r1 % 60000, r2 % 4, r1 / 60000 % 100000⟩ (decide (V.int (r2 / 4 % 3) = V.int 0)))) := by walk_at "look"
      have j2 : G Lr = some (.lst []) := by walk_at "look"
      have j3 : G Er = some (.lst []) := by walk_at "look"
      have j4 : OAt K G oa od o := by walk_at "look"
      have j5 : G a = some (.lst [.int r0, .int r1, .int r2, .int r3, .int r4, .int r5]) := by walk_at "look"
      have jf : ∀ b u, H b = some u → b ∉ [hh, S, PP] → G b = some u := fun b u h n => kp b u (e4 b u h) n
      clear kp k1 k2 k3 k4 z13 hL3 hS3 hP3 h3
      walk_at "s"
      refine u_Restart (B := ⟨hh, hd, oa, od, L, S, PP⟩) (g := ⟨60 + r1 % 60000, r2 % 4, 0⟩) hB ?_
      intro L2 S2 P2 G2 fL2 fS2 fP2 nA nB nC e2 hB2 hL2 hS2 hP2
      have hB2 : HAt K G2 ⟨hh, hd, oa, od, L2, S2, P2⟩ ⟨60 + r1 % 60000, r2 % 4, 0⟩ := hB2
      have u1 : S2 ≠ hh := by walk_at "ne"
      have u2 : L2 ≠ hh := by walk_at "ne"
      have u3 : P2 ≠ hh := by walk_at "ne"
      have u4 : wd ≠ L2 := by walk_at "ne"
      have u5 : wd ≠ S2 := by walk_at "ne"
      have u6 : wd ≠ P2 := by walk_at "ne"
      have u7 : Er ≠ L2 := by walk_at "ne"
      have u8 : Er ≠ S2 := by walk_at "ne"
      have u9 : Er ≠ P2 := by walk_at "ne"
      have v1 : Lr ≠ L2 := by walk_at "ne"
      have v2 : Lr ≠ S2 := by walk_at "ne"
      have v3 : Lr ≠ P2 := by walk_at "ne"
      have v4 : oa ≠ L2 := by walk_at "ne"
      have v5 : oa ≠ S2 := by walk_at "ne"
      have v6 : oa ≠ P2 := by walk_at "ne"
      walk_at "s"
      refine u_Tick (B := ⟨hh, hd, oa, od, L2, S2, P2⟩) (g := ⟨60 + r1 % 60000, r2 % 4, 0⟩) (now := r1 / 60000 % 100000) hB2 (by show (0 : Int) ≤ _; omega) u1 hS2 ?_
      intro G3 e3 hB3
      have i1 : G3 wd = some (.dK (worldV oa Lr Er ⟨60 + r1 % 60000, r2 % 4, r1 / 60000 % 100000⟩ (decide (V.int (r2 / 4 % 3) = V.int 0)))) := by walk_at "look"
      have i2 : G3 Lr = some (.lst []) := by walk_at "look"
      have i3 : G3 Er = some (.lst []) := by walk_at "look"
      have i4 : OAt K G3 oa od o := by walk_at "look"
      have i5 : G3 a = some (.lst [.int r0, .int r1, .int r2, .int r3, .int r4, .int r5]) := by walk_at "look"
      have i6 : G3 L2 = some (.dK (lsV [])) := dk_eq (by walk_at "look") (by rfl)
      have i7 : G3 S2 = some (.lst []) := by walk_at "look"
      have i8 : G3 P2 = some (.lst []) := by walk_at "look"
      have jg : ∀ b u, H b = some u → b ∉ [hh, S, PP] → G3 b = some u := fun b u h n => e3 b u (e2 b u (jf b u h n) (fun m => n (by rw [List.mem_singleton.mp m]; simp))) (fun m => n (by rw [List.mem_singleton.mp m]; simp))
      have je : Same H G3 := fun b u h => jg b u h (by
        simp only [List.mem_cons, List.not_mem_nil, or_false, not_or]
        exact ⟨ne_of_none h fhh, ne_of_none h fSS, ne_of_none h fPP⟩)
      have hL2' : H L2 = none := fresh_of fL2 (fun u h => jf _ _ h (by
        simp only [List.mem_cons, List.not_mem_nil, or_false, not_or]
        exact ⟨ne_of_none h fhh, ne_of_none h fSS, ne_of_none h fPP⟩))
      have aL : a ≠ L2 := by walk_at "ne"
      have aR : a ≠ Lr := fun e => by rw [e] at z1; exact absurd z1 (by rw [fLr]; exact fun h => by cases h)
      have hS2' : H S2 = none := fresh_of fS2 (fun u h => jf _ _ h (by
        simp only [List.mem_cons, List.not_mem_nil, or_false, not_or]
        exact ⟨ne_of_none h fhh, ne_of_none h fSS, ne_of_none h fPP⟩))
      have hP2' : H P2 = none := fresh_of fP2 (fun u h => jf _ _ h (by
        simp only [List.mem_cons, List.not_mem_nil, or_false, not_or]
        exact ⟨ne_of_none h fhh, ne_of_none h fSS, ne_of_none h fPP⟩))
      clear e2 e3 hB2 hL2 hS2 hP2 fL2 fS2 fP2 jf j1 j2 j3 j4 j5 hB
      walk_at "s"
      have c9 : 0 ≤ r2 / 36 % 90 ∧ r2 / 36 % 90 < 90 := by omega
      refine c_loopR (n := (r2 / 12 % 3).toNat) rfl (fun i σ G => (∃ v p, σ = [some (.ref a), some (.ref oa), some (.ref wd), some (.ref hh), v, p]) ∧ Kp [L2, Lr] G3 G ∧ ∃ lw : List (Addr × (Int × Int)), lw.length = i ∧ G L2 = some (.dK (lsV (lw.map (·.2)))) ∧ G Lr = some (.lst (lw.map fun y => .ref y.1)) ∧ (∀ y ∈ lw, G y.1 = some (.lst [.int y.2.1, .int y.2.2]) ∧ G3 y.1 = none ∧ 1200 - 300 * (i : Int) + r2 / 36 % 90 ≤ y.2.1 ∧ y.2.1 ≤ 1000 ∧ 0 ≤ y.2.1 ∧ 1 ≤ y.2.2 ∧ y.2.2 ≤ 32) ∧ ((lw.map (·.2)).map (·.1)).Nodup) ?_ ?_ ?_
      · exact ⟨⟨_, _, rfl⟩, by walk_at "kp", [], rfl, i6, i2, (fun y hy => by cases hy), List.nodup_nil⟩
      · rintro i σ G4 hi ⟨⟨v, p, rfl⟩, kp, lw, hl, hL, hr, hy, nd⟩
        have z1 : HAt K G4 ⟨hh, hd, oa, od, L2, S2, P2⟩ ⟨60 + r1 % 60000, r2 % 4, r1 / 60000 % 100000⟩ := by walk_at "look"
        have z2 : G4 wd = some (.dK (worldV oa Lr Er ⟨60 + r1 % 60000, r2 % 4, r1 / 60000 % 100000⟩ (decide (V.int (r2 / 4 % 3) = V.int 0)))) := by walk_at "look"
        have z3 : G4 a = some (.lst [.int r0, .int r1, .int r2, .int r3, .int r4, .int r5]) := by walk_at "look"
        walk_at "s"
        rename_i pr fpr
        have hpn : ∀ q ∈ lw.map (·.2), q.1 ≠ 900 - 300 * (i : Int) + r2 / 36 % 90 := fun q hq => by
          obtain ⟨u, hu2, rfl⟩ := List.mem_map.mp hq
          obtain ⟨_, _, b1, _⟩ := hy u hu2
          omega
        refine u_Listen (B := ⟨hh, hd, oa, od, L2, S2, P2⟩) (g := ⟨60 + r1 % 60000, r2 % 4, r1 / 60000 % 100000⟩) (ls := lw.map (·.2)) (by walk_at "look") (by walk_at "look") (by rw [List.length_map]; omega) (by omega) (by omega) (by omega) (by omega) hpn ?_
        have n1 : pr ≠ L2 := by walk_at "ne"
        have n2 : pr ≠ Lr := by walk_at "ne"
        have fpr3 : G3 pr = none := by walk_at "fresh"
        walk_at "s"
        refine ⟨⟨_, _, rfl⟩, by walk_at "kp", lw ++ [(pr, (900 - 300 * (i : Int) + r2 / 36 % 90, 1 + (r2 / 3240 + (i : Int)) % 32))], by simp [hl], dk_eq (by walk_at "look") (by simp), lk_eq (by walk_at "look") (by simp), ?_, ?_⟩
        · intro y hy2
          rcases List.mem_append.mp hy2 with hy2 | hy2
          · obtain ⟨b0, b1, b2, b3, b4, b5, b6⟩ := hy y hy2
            have n3 : y.1 ≠ L2 := by walk_at "ne"
            have n4 : y.1 ≠ Lr := by walk_at "ne"
            exact ⟨by walk_at "look", b1, by omega, b3, b4, b5, b6⟩
          · obtain rfl := List.mem_singleton.mp hy2
            refine ⟨by walk_at "look", fpr3, ?_, ?_, ?_, ?_, ?_⟩ <;> dsimp only <;> omega
        · rw [List.map_append, List.map_append, List.nodup_append]
          refine ⟨nd, by simp, ?_⟩
          intro x hx y hy2
          obtain ⟨u, hu2, rfl⟩ := List.mem_map.mp hx
          have e : y = 900 - 300 * (i : Int) + r2 / 36 % 90 := by simpa using hy2
          rw [e]
          exact hpn u hu2
      · rintro σ G4 ⟨⟨v, p, rfl⟩, kp, lw, hl, hL, hr, hy, nd⟩
        walk_at "s"
        rename_i pq fpq
        have hk : ((r2 / 12 % 3).toNat : Int) ≤ 2 := by omega
        have o1 : HAt K (upd G4 pq (.lst [.ref hh, .ref wd])) ⟨hh, hd, oa, od, L2, S2, P2⟩ ⟨60 + r1 % 60000, r2 % 4, r1 / 60000 % 100000⟩ := by walk_at "look"
        have o2 : upd G4 pq (.lst [.ref hh, .ref wd]) S2 = some (.lst []) := by walk_at "look"
        have o3 : upd G4 pq (.lst [.ref hh, .ref wd]) P2 = some (.lst []) := by walk_at "look"
        have o4 : upd G4 pq (.lst [.ref hh, .ref wd]) wd = some (.dK (worldV oa Lr Er ⟨60 + r1 % 60000, r2 % 4, r1 / 60000 % 100000⟩ (decide (V.int (r2 / 4 % 3) = V.int 0)))) := by walk_at "look"
        have o5 : upd G4 pq (.lst [.ref hh, .ref wd]) Er = some (.lst []) := by walk_at "look"
        have o6 : upd G4 pq (.lst [.ref hh, .ref wd]) L2 = some (.dK (lsV (lw.map (·.2)))) := by walk_at "look"
        have v7 : oa ≠ Lr := kind_neq i4 i2 (by kernel_rfl)
        have o7 : OAt K (upd G4 pq (.lst [.ref hh, .ref wd])) oa od o := by walk_at "look"
        have o8 : upd G4 pq (.lst [.ref hh, .ref wd]) Lr = some (.lst (lw.map fun y => .ref y.1)) := by walk_at "look"
        have o9 : ∀ y ∈ lw, upd G4 pq (.lst [.ref hh, .ref wd]) y.1 = some (.lst [.int y.2.1, .int y.2.2]) := fun y hy2 => by
          have z := (hy y hy2).1
          walk_at "look"
        have hs : Same H (upd G4 pq (.lst [.ref hh, .ref wd])) := fun b u h => by
          have n1 : b ≠ L2 := ne_of_none h hL2'
          have n2 : b ≠ Lr := ne_of_none h fLr
          have z := je b u h
          walk_at "look"
        have op : upd G4 pq (.lst [.ref hh, .ref wd]) pq = some (.lst [.ref hh, .ref wd]) := upd_same
        generalize upd G4 pq (.lst [.ref hh, .ref wd]) = Gf at o1 o2 o3 o4 o5 o6 o7 o8 o9 hs op ⊢
        have nl : ∀ y ∈ lw, y.1 ∉ [hh, S2, P2, wd, Er] := fun y hy2 m => by
          obtain ⟨_, b1, _⟩ := hy y hy2
          simp only [List.mem_cons, List.not_mem_nil, or_false] at m
          rcases m with m | m | m | m | m <;> rw [m] at b1
          · rw [hB3] at b1; cases b1
          · rw [i7] at b1; cases b1
          · rw [i8] at b1; cases b1
          · rw [i1] at b1; cases b1
          · rw [i3] at b1; cases b1
        have nn : ∀ {b : Addr}, b ≠ hh → b ≠ S2 → b ≠ P2 → b ≠ wd → b ≠ Er → b ∉ [hh, S2, P2, wd, Er] := fun a b c d e m => by
          simp only [List.mem_cons, List.not_mem_nil, or_false] at m
          rcases m with m | m | m | m | m
          · exact a m
          · exact b m
          · exact c m
          · exact d m
          · exact e m
        have nw : oa ≠ wd := kind_neq i4 i1 (by kernel_rfl)
        have ne : oa ≠ Er := kind_neq i4 i3 (by kernel_rfl)
        refine q ⟨hh, hd, oa, od, L2, S2, P2⟩ ⟨wd, oa, od, Lr, Er⟩ ⟨60 + r1 % 60000, r2 % 4, r1 / 60000 % 100000⟩ o (lw.map (·.2)) lw (decide (V.int (r2 / 4 % 3) = V.int 0)) (cutR [hh, S2, P2, wd, Er] Gf) pq Gf ok ?_ hs ?_ op (fun b hb => by
          simp only [List.mem_cons, List.not_mem_nil, or_false] at hb
          rcases hb with rfl | rfl | rfl | rfl | rfl
          · exact fhh
          · exact hS2'
          · exact hP2'
          · exact fwd
          · exact fEr)
        · refine ⟨?_, ?_, ?_, ?_, ?_, ?_, by rw [List.length_map]; omega, nd, ?_⟩
          · show 60 ≤ 60 + r1 % 60000; omega
          · show 60 + r1 % 60000 < 100000; omega
          · show 0 ≤ r1 / 60000 % 100000; omega
          · show r1 / 60000 % 100000 < 100000; omega
          · show 0 ≤ r2 % 4; omega
          · show r2 % 4 ≤ 3; omega
          · intro u hu2
            obtain ⟨y, hy2, rfl⟩ := List.mem_map.mp hu2
            obtain ⟨_, _, _, b3, b4, b5, b6⟩ := hy y hy2
            exact ⟨b4, by omega, by omega, by omega⟩
        · exact {
            h := o1
            S := o2
            P := o3
            hw := o4
            hE := o5
            sub := cut_sub
            fr := by simp [cutR]
            L := cut_at o6 (nn u2 nA nB u4.symm u7.symm)
            oa := cut_at o7 (nn q1 v5 v6 nw ne)
            mo := ⟨rfl, rfl⟩
            wL := cut_at o8 (nn m7 v2 v3 g5.symm g7)
            aL := fun y hy2 => cut_at (o9 y hy2) (nl y hy2)
            aE := fun y hy2 => by cases hy2
            kA := fun y hy2 => by cases hy2
            pA := fun y hy2 => by cases hy2
            ba := ⟨u1.symm, u3.symm, u2.symm, nC, nA.symm, nB.symm, q1, v5, v6, v4⟩
            dst := ⟨g6, m1, u5, u6, m4, u8, u9⟩
            ek := rfl
            eq := rfl
            el := rfl }
theorem ok__law_build (W : Wld K mg) : GFn P w K mg base "_law_build" 17 ["_law_rows_here"] (spBuild K) := by
  obtain ⟨fd, F1, F⟩ := fo__law_build (P := P) (w := w) (base := base) W
  exact ⟨⟨_, fd, F1, W.g__law_build, F.kp, F.bindsN fun _ _ _ _ _ _ us hl => match us, hl with | [_], _ => rfl⟩⟩
end
end
/-! part M1 -/
section
set_option maxHeartbeats 1000000
open PySem PySem.Spec PyProof.Rows L2 ClX TL
def Sm (ns : List Int) : Prop := ∀ n ∈ ns, 0 ≤ n ∧ n < 1000000000000
theorem sm_nil : Sm [] := fun n h => by cases h
theorem sm_cons {a : Int} {ns : List Int} (h : 0 ≤ a ∧ a < 1000000000000) (k : Sm ns) : Sm (a :: ns) := fun n hn => by
  rcases List.mem_cons.mp hn with rfl | hn
  · exact h
  · exact k n hn
theorem sm_app {a b : List Int} (h : Sm a) (k : Sm b) : Sm (a ++ b) := fun n hn => by
  rcases List.mem_append.mp hn with hn | hn
  · exact h n hn
  · exact k n hn
theorem sm_take {a : List Int} (h : Sm a) (i : Nat) : Sm (a.take i) := fun n hn => h n (List.mem_of_mem_take hn)
theorem sm_drop {a : List Int} (h : Sm a) (i : Nat) : Sm (a.drop i) := fun n hn => h n (List.mem_of_mem_drop hn)
theorem sm_octs : ∀ (k : Nat) (n : Int), Sm (octs n k)
  | 0, n => sm_nil
  | k + 1, n => sm_cons (by omega) (sm_octs k (n / 256))
theorem sm_wnum (n : Int) (k : Nat) : Sm (wnum n k) := fun x hx => sm_octs k n x (List.mem_reverse.mp hx)
theorem sm_hdr {d : SegD} (h : 0 ≤ d.scl ∧ d.scl < 4) : Sm (hdrO d) := by
  unfold hdrO plainO
  repeat (first | apply sm_app | exact sm_wnum _ _ | exact sm_nil | refine sm_cons (by omega) ?_)
theorem shf_b (r : Int) : 0 ≤ shf r ∧ shf r < 4 := by
  unfold shf
  split <;> (try split) <;> (try split) <;> omega
theorem sm_enc {x t : Int} {d : SegD} (h : 0 ≤ d.scl ∧ d.scl < 4) : Sm (enc x t d) := sm_app (sm_app (sm_take (sm_hdr h) _) (sm_wnum _ _)) (sm_drop (sm_hdr h) _)
theorem nums_of {ns : List Int} (l : ns.length ≤ 2000) (h : Sm ns) : Nums ns := ⟨l, fun n hn => ⟨(h n hn).1, Int.lt_of_lt_of_le (h n hn).2 (by decide)⟩⟩
theorem pace_b {o : OptD} (ok : o.Ok) : o.pace ≤ 1073741824 ∧ o.life ≤ 1073741824 := by
  obtain ⟨m1, m2, r1, r2, l1, p1, p2, p3, t1, t2, n1, n2, n3, d1, d2, k1, k2⟩ := ok
  have h1 : 0 ≤ o.pace * o.life := Int.mul_nonneg (by omega) (by omega)
  have h2 : 0 ≤ (o.pace - 1) * (o.life + 1) := Int.mul_nonneg (by omega) (by omega)
  rw [Int.sub_mul, Int.one_mul] at h2
  have h3 : o.pace * (o.life + 1) = o.pace * o.life + o.pace := by rw [Int.mul_add, Int.mul_one]
  omega
theorem b2i_b (b : Bool) : 0 ≤ b2i b ∧ b2i b < 2 := by cases b <;> decide
theorem sm_opt {o : OptD} (ok : o.Ok) : Sm (optN o) := by
  have hp := pace_b ok
  have hb1 := b2i_b o.nagle
  have hb2 := b2i_b o.cubic
  obtain ⟨m1, m2, r1, r2, l1, p1, p2, p3, t1, t2, n1, n2, n3, d1, d2, k1, k2⟩ := ok
  clear p2
  unfold optN
  repeat (first | exact sm_nil | refine sm_cons (by omega) ?_)
theorem wait_b {o : OptD} (ok : o.Ok) : 0 ≤ o.wait ∧ o.wait ≤ 1073741824 := by
  obtain ⟨m1, m2, r1, r2, l1, p1, p2, p3, t1, t2, n1, n2, n3, d1, d2, k1, k2⟩ := ok
  clear p2
  unfold OptD.wait bnd
  split <;> (try split) <;> omega
theorem sm_end {o : OptD} (ok : o.Ok) {now : Int} {os : List Int} {fin ab : Bool} (hn : 0 ≤ now ∧ now < 100000) (ho : ∀ n ∈ os, 0 ≤ n ∧ n < 256) (hl : os.length ≤ 30) : Sm (endN o (dF o now os fin ab)) := by
  have hw := wait_b ok
  have hb := b2i_b fin
  have so : Sm os := fun n h => by have := ho n h; omega
  obtain ⟨m1, m2, r1, r2, l1, p1, p2, p3, t1, t2, n1, n2, n3, d1, d2, k1, k2⟩ := ok
  clear p2
  unfold endN senN recN triN conN EndD.phN mayN
  dsimp only
  have sp : Sm (if ab = true then [9, 5] else [0]) := by
    split
    · exact sm_cons (by omega) (sm_cons (by omega) sm_nil)
    · exact sm_cons (by omega) sm_nil
  repeat (first | exact sp | exact so | exact sm_nil | apply sm_app | refine sm_cons (by omega) ?_)
theorem sm_sock {o : OptD} (ok : o.Ok) {k : SkD} {d : EndD} (hk : (0 ≤ k.cnt ∧ k.cnt < 100000) ∧ (0 ≤ k.port ∧ k.port < 100000) ∧ (0 ≤ k.peer ∧ k.peer < 100000) ∧ (0 ≤ k.pp ∧ k.pp < 100000)) (h : Sm (endN o d)) : Sm (sockN k o d) := by
  unfold sockN
  repeat (first | exact h | exact sm_nil | apply sm_app | refine sm_cons (by omega) ?_)
theorem sm_pk {a t : Int} {ns : List Int} (ha : 0 ≤ a ∧ a < 100000) (ht : 0 ≤ t ∧ t < 100000) (hl : ns.length ≤ 1000) (h : Sm ns) : Sm (pkN a t ns) := by
  unfold pkN
  repeat (first | exact h | exact sm_nil | apply sm_app | refine sm_cons (by omega) ?_)
theorem sm_head {g : HD} {o : OptD} (ok : o.Ok) {a b c : Nat} (h1 : 0 ≤ g.addr ∧ g.addr < 100000) (h2 : 0 ≤ g.ctr ∧ g.ctr < 100000) (h3 : 0 ≤ g.now ∧ g.now < 100000) (hl : a < 1000 ∧ b < 1000 ∧ c < 1000) : Sm (headN g o a b c) := by
  have := sm_opt ok
  unfold headN
  repeat (first | exact this | exact sm_nil | apply sm_app | refine sm_cons (by omega) ?_)
theorem lawC_codes {g : HD} {o : OptD} {ls : List (Int × Int)} {ks : List SkX} {qs : List PkX} {es : List LE} (ek : ks.map (fun y => (y.k, y.d)) = es.map fun y => (y.k, dF o g.now y.os y.fin y.ab))
    (eq : qs.map (fun q => (q.a, q.t, q.ns)) = es.map fun y => (g.addr, y.k.peer, enc g.addr y.k.peer (segO y.k o g.now))) (taken : Bool) : codesN g o ls ks (if taken = true then [] else qs) = lawC g o ls es taken := by
  have l1 : ks.length = es.length := by simpa using congrArg List.length ek
  have l2 : qs.length = es.length := by simpa using congrArg List.length eq
  have m1 : ks.map (fun y => sockN y.k o y.d) = es.map fun y => sockN y.k o (dF o g.now y.os y.fin y.ab) := by
    have := congrArg (List.map fun z : SkD × EndD => sockN z.1 o z.2) ek
    simpa [List.map_map, Function.comp_def] using this
  have m2 : qs.map (fun q => pkN q.a q.t q.ns) = es.map fun y => pkN g.addr y.k.peer (enc g.addr y.k.peer (segO y.k o g.now)) := by
    have := congrArg (List.map fun z : Int × Int × List Int => pkN z.1 z.2.1 z.2.2) eq
    simpa [List.map_map, Function.comp_def] using this
  unfold codesN lawC
  cases taken with
  | false =>
    simp only [Bool.false_eq_true, if_false]
    rw [l1, l2, m1, m2]
  | true =>
    simp only [if_true]
    rw [l1, m1]
    rfl
/-- what is known of an end -/
structure EOk (e : LE) : Prop where
  c : 0 ≤ e.k.cnt ∧ e.k.cnt < 100000
  p : 0 ≤ e.k.port ∧ e.k.port < 100000
  q : 0 ≤ e.k.peer ∧ e.k.peer < 100000
  r : 0 ≤ e.k.pp ∧ e.k.pp < 100000
  l : e.os.length ≤ 30
  o : ∀ n ∈ e.os, 0 ≤ n ∧ n < 256
theorem lawC_nums {g : HD} {o : OptD} {ls : List (Int × Int)} {es : List LE} {taken : Bool} (ok : o.Ok) (h1 : 0 ≤ g.addr ∧ g.addr < 100000) (h2 : 0 ≤ g.ctr ∧ g.ctr < 100000) (h3 : 0 ≤ g.now ∧ g.now < 100000) (hl : ls.length ≤ 10) (hv : ∀ p ∈ ls, 0 ≤ p.1 ∧ p.1 < 100000 ∧ 0 ≤ p.2 ∧ p.2 < 100000)
    (he : es.length ≤ 10) (hE : ∀ e ∈ es, EOk e) : ∀ c ∈ lawC g o ls es taken, Nums c := by
  intro c hc
  unfold lawC at hc
  simp only [List.mem_append] at hc
  rcases hc with ((hc | hc) | hc) | hc
  · rw [List.mem_singleton.mp hc]
    refine nums_of (by simp [headN, optN]) (sm_head ok h1 h2 h3 ⟨by omega, by omega, ?_⟩)
    split <;> omega
  · obtain ⟨p, hp, rfl⟩ := List.mem_map.mp hc
    have := hv p hp
    exact nums_of (by simp) (sm_cons (by omega) (sm_cons (by omega) sm_nil))
  · obtain ⟨y, hy, rfl⟩ := List.mem_map.mp hc
    obtain ⟨a1, a2, a3, a4, a5, a6⟩ := hE y hy
    have hen := endN_len o (dF o g.now y.os y.fin y.ab) (by show y.os.length ≤ 1000; omega)
    exact nums_of (Nat.le_trans (sockN_len _ _ _ (by show y.os.length ≤ 1000; omega)) (by decide)) (sm_sock ok ⟨a1, a2, a3, a4⟩ (sm_end ok h3 a6 a5))
  · split at hc
    · cases hc
    · obtain ⟨y, hy, rfl⟩ := List.mem_map.mp hc
      obtain ⟨a1, a2, a3, a4, a5, a6⟩ := hE y hy
      exact nums_of (by simp [pkN, enc_len]) (sm_pk h1 a3 (by rw [enc_len]; decide) (sm_enc (shf_b _)))
end
/-! part D37 -/
section
set_option maxHeartbeats 1000000
open PySem PySem.Spec PyProof.Rows L2 ClX TL

--OVER law {'CMP _law_other.options != _law_world[\'options\']': '(op_neX (ok_Options___eq__ (P := P) (K := K) W) W.ne_Options (W.ty_Options).2.2.2 (hr.mono (by decide)))', 'CMP _law_other.take() == _law_host.take()': '(op_eqX (ok_Packet___eq__ (P := P) (K := K) W) (fun _ _ _ _ => PkEq.ext) (hr.mono (by decide)))'}
section
variable {P : Program} [PrOk P] {w : World} {K : PySem.W.Frag} {mg : Str → Option Value} {base : Heap}
theorem c_asgG {te : TE} {g : TG} {D : Ends} {σ : L2.St} {H : Hp} (h : te σ H fun x H1 => g x σ H1 fun σ2 H2 => D.nx σ2 H2) : tAsg te g D σ H := h
theorem JOk.full {H : Hp} {B : HA} {M : WA} {g : HD} {o : OptD} {ls : List (Int × Int)} {lw : List (Addr × (Int × Int))} {ks : List SkX} {qs : List PkX} {es : List LE} {taken : Bool} {F : Hp} (J : JOk K H B M g o ls lw ks qs es taken F) {G : Hp} {P2 : Addr} {qs2 : List PkX} (s : Same F G) (h : HAt K G (B.setP P2) g)
    (hS : G B.S = some (.lst (ks.map fun y => .ref y.x.s))) (hP : G P2 = some (.lst (qs2.map fun q => .ref q.p))) (hq : ∀ q ∈ qs2, PkOK K G q.p q.dx q.oc q.a q.t q.ns) : FullOK K G (B.setP P2) g o ls ks qs2 where
  hL := J.ba.hL
  h := h
  oa := s _ _ J.oa
  L := s _ _ J.L
  S := hS
  P := hP
  kA := fun y hy => ⟨s _ _ (J.kA y hy).1, by
    obtain ⟨u1, u2, u3, u4, u5, u6, u7, u8, u9⟩ := (J.kA y hy).2
    exact ⟨s _ _ u1, s _ _ u2, s _ _ u3, s _ _ u4, s _ _ u5, s _ _ u6, s _ _ u7, s _ _ u8, s _ _ u9⟩⟩
  pA := hq
theorem JOk.wok {H : Hp} {B : HA} {M : WA} {g : HD} {o : OptD} {ls : List (Int × Int)} {lw : List (Addr × (Int × Int))} {ks : List SkX} {qs : List PkX} {es : List LE} {taken : Bool} {F : Hp} (J : JOk K H B M g o ls lw ks qs es taken F) {G : Hp} (s : Same F G)
    (hw : G M.w = some (.dK (worldV M.oa M.L M.E g taken))) (hE : G M.E = some (.lst (es.map fun y => .ref y.e))) : WOk K G M g o lw es taken where
  hw := hw
  ho := by
    obtain ⟨e1, e2⟩ := J.mo
    rw [e1, e2]
    exact s _ _ J.oa
  hL := s _ _ J.wL
  hE := hE
  aL := fun y hy => s _ _ (J.aL y hy)
  aE := fun y hy => ⟨s _ _ (J.aE y hy).he, s _ _ (J.aE y hy).ha⟩
theorem FullOK.sm {H G : Hp} {B : HA} {g : HD} {o : OptD} {ls : List (Int × Int)} {ks : List SkX} {qs : List PkX} (h : FullOK K H B g o ls ks qs) (s : Same H G) : FullOK K G B g o ls ks qs where
  hL := h.hL
  h := s _ _ h.h
  oa := s _ _ h.oa
  L := s _ _ h.L
  S := s _ _ h.S
  P := s _ _ h.P
  kA := fun y hy => ⟨s _ _ (h.kA y hy).1, by
    obtain ⟨u1, u2, u3, u4, u5, u6, u7, u8, u9⟩ := (h.kA y hy).2
    exact ⟨s _ _ u1, s _ _ u2, s _ _ u3, s _ _ u4, s _ _ u5, s _ _ u6, s _ _ u7, s _ _ u8, s _ _ u9⟩⟩
  pA := fun q hq => ⟨s _ _ (h.pA q hq).hp, s _ _ (h.pA q hq).ho⟩
theorem cnt_uni {ks : List SkX} (h : (ks.map fun y => y.k.cnt).Nodup) {u y : SkX} (hu : u ∈ ks) (hy : y ∈ ks) (e : u.k.cnt = y.k.cnt) : u = y := by
  obtain ⟨i, hi, rfl⟩ := List.mem_iff_getElem.mp hu
  obtain ⟨j, hj, rfl⟩ := List.mem_iff_getElem.mp hy
  have e2 : (ks.map fun y => y.k.cnt)[i]'(by simpa using hi) = (ks.map fun y => y.k.cnt)[j]'(by simpa using hj) := by simpa using e
  have := (List.getElem_inj h).mp e2
  subst this
  rfl
theorem FullOK.hs {H : Hp} {B : HA} {g : HD} {o : OptD} {ls : List (Int × Int)} {ks : List SkX} {qs : List PkX} (h : FullOK K H B g o ls ks qs) (nd : (ks.map fun y => y.k.cnt).Nodup) {y : SkX} (hy : y ∈ ks) : HsOK K H B g o (ks.map fun y => (y.x, y.k)) (y.x, y.k) y.d where
  h := h.h
  S := by rw [List.map_map]; exact h.S
  ks := fun z hz => by
    obtain ⟨u, hu, rfl⟩ := List.mem_map.mp hz
    exact (h.kA u hu).1
  mem := List.mem_map_of_mem hy
  uni := fun z hz e => by
    obtain ⟨u, hu, rfl⟩ := List.mem_map.mp hz
    rw [cnt_uni nd hu hy e]
  oa := h.oa
  E := (h.kA y hy).2
theorem stat_self {k : SkD} {o : OptD} {d : EndD} : ∀ p ∈ statD k o d, valV (statD k o d) p.1 = some p.2 ∧ flatB p.2 = true := by
  have hf : flatB d.cau = true := by unfold EndD.cau; split <;> rfl
  intro p hp
  unfold statD at hp ⊢
  simp only [List.mem_cons, List.not_mem_nil, or_false] at hp
  rcases hp with rfl | rfl | rfl | rfl | rfl | rfl | rfl | rfl | rfl | rfl | rfl | rfl <;> first | exact ⟨rfl, rfl⟩ | exact ⟨rfl, hf⟩
theorem nodup_uni {ls : List (Int × Int)} (h : (ls.map (·.1)).Nodup) : ∀ p ∈ ls, ∀ q ∈ ls, p.1 = q.1 → p = q := by
  intro p hp q hq e
  obtain ⟨i, hi, rfl⟩ := List.mem_iff_getElem.mp hp
  obtain ⟨j, hj, rfl⟩ := List.mem_iff_getElem.mp hq
  have e2 : (ls.map (·.1))[i]'(by simpa using hi) = (ls.map (·.1))[j]'(by simpa using hj) := by simpa using e
  have := (List.getElem_inj h).mp e2
  subst this
  rfl
def spLaw (K : PySem.W.Frag) : Sp := fun vs H Q _ => ∃ (a : Addr) (ns : List Int), vs = [.ref a] ∧ SqL K H a (nis ns) ∧ ∀ H', Q (.bl true) H'
local macro_rules | `(tactic| walk_at "s1") => `(tactic| first
  | ((with_reducible show RRows _ _); intro t9 t8 H9 f9 e9 h9 l9 k9))
abbrev N_law : List Str := ["_law_script", "_law_rows_here", "_law_k", "_law_text_here", "_law_other", "_law_end", "_law_host", "_law_world"]
theorem sc_law : FnScope N_law ["_law_script"] (defScope s_law) := ⟨rfl, rfl, rfl, by decide +kernel, rfl, by decide +kernel, by decide +kernel⟩
theorem fo_law (W : Wld K mg) : ∃ fd, FnOk P w K mg base CX0 20 (pl_law.ad K) fd ["_law_script"] (spLaw K) ∧ FunD K "law" "law" (defArgs s_law) (defBody s_law) (defScope s_law) [] [] (pl_law.ad K) fd := by
  obtain ⟨fd, F⟩ := W.d_law
  refine ⟨fd, F.ok sc_law (fun vs H Q E h => ?_) (fun cdv A outer s H vs Q E hr h => ?_), F⟩
  · obtain ⟨a, ns, rfl, z1, q⟩ := h; rfl
  · obtain ⟨a, ns, rfl, z1, q⟩ := h
    have hu := hu_of hr
    refine ⟨_, PSs.nox (pss_cons (ps_set (i := 1) sc_law.nd rfl (Or.inl rfl) (pe_fn (ok__law_rows (P := P) (K := K) W) (hr.mono (by decide)) (by rfl) (pa_cons (pv 0) (pa_cons pe_int pa_nil))))
      (pss_cons (ps_asg (pe_fn (ok__law_build (P := P) (K := K) W) (hr.mono (by decide)) (by rfl) (pa_cons (pv 1) pa_nil)) (pg_unl (n := 2) rfl (pgs_cons (pg_name (i := 6) sc_law.nd rfl (Or.inl rfl)) (pgs_cons (pg_name (i := 7) sc_law.nd rfl (Or.inl rfl)) pgs_nil))))
      (pss_cons (ps_for PassesOwn.never rfl (pi_range1 rfl W.f_range (pa_cons (pe_op op_add pe_int (pe_op op_mod (pe_callTy call_int1 (by rfl) W.f_int bt_int (pa_cons (pe_ix ix_list (pv 1) pe_int (fun _ _ => rfl)) pa_nil)) pe_int)) pa_nil)) (pg_name (i := 2) sc_law.nd rfl (Or.inl rfl)) (pss_one (ps_if (pt_not (pt_val (pe_fn (ok__law_socket (P := P) (K := K) W) (hr.mono (by decide)) (by rfl) (pa_cons (pv 6) (pa_cons (pv 7) (pa_cons (pe_ix ix_list (pv 1) (pe_op op_add pe_int (pv 2)) (fun _ _ => rfl)) (pa_cons (pv 2) pa_nil))))))) (pss_one (ps_ret pe_bl)) pss_nil)))
      (pss_cons (ps_if (pt_val (pe_dget hu (pv 7) pe_str (fun _ _ => rfl))) (pss_one (ps_expr (pe_mt0 (ok_Host_take (P := P) (K := K) W) (hr.mono (by decide)) (pv 6)))) pss_nil)
      (pss_cons (ps_set (i := 3) sc_law.nd rfl (Or.inl rfl) (pe_fn (ok__law_text (P := P) (K := K) W) (hr.mono (by decide)) (by rfl) (pa_cons (pv 7) pa_nil)))
      (pss_cons (ps_if (PW.pt (pw_or (pt_cmpR op_ne (pe_fn (ok_save_host (P := P) (K := K) W) (hr.mono (by decide)) (by rfl) (pa_cons (pv 6) pa_nil)) (pv 3) (nomark _)) (pw_or1 (pt_cmpR op_ne (pe_fn (ok_save_host (P := P) (K := K) W) (hr.mono (by decide)) (by rfl) (pa_cons (pv 6) pa_nil)) (pv 3) (nomark _))))) (pss_one (ps_ret pe_bl)) pss_nil)
      (pss_cons (ps_set (i := 4) sc_law.nd rfl (Or.inl rfl) (pe_fn (ok_load_host (P := P) (K := K) W) (hr.mono (by decide)) (by rfl) (pa_cons (pv 3) pa_nil)))
      (pss_cons (ps_if (PW.pt (pw_or (pt_cmpR op_ne (pe_fn (ok_save_host (P := P) (K := K) W) (hr.mono (by decide)) (by rfl) (pa_cons (pv 4) pa_nil)) (pv 3) (nomark _)) (pw_or (pt_cmpR (op_neD hr.units) (pe_pr (ok_Host_sockets (P := P) (K := K) W) (hr.mono (by decide)) (pv 4) rfl) (pe_pr (ok_Host_sockets (P := P) (K := K) W) (hr.mono (by decide)) (pv 6) rfl) (nomark _)) (pw_or1 (pt_cmpR op_ne (pe_get W.c_Host W.n_Host_counter RHost.l_counter (pv 4)) (pe_dget hu (pv 7) pe_str (fun _ _ => rfl)) (nomark _)))))) (pss_one (ps_ret pe_bl)) pss_nil)
      (pss_cons (ps_if (PW.pt (pw_or (pt_cmpR op_ne (pe_get W.c_Host W.n_Host_now RHost.l_now (pv 4)) (pe_dget hu (pv 7) pe_str (fun _ _ => rfl)) (nomark _)) (pw_or (pt_cmpR op_ne (pe_get W.c_Host W.n_Host_address RHost.l_address (pv 4)) (pe_dget hu (pv 7) pe_str (fun _ _ => rfl)) (nomark _)) (pw_or1 (pt_cmpR (op_neX (ok_Options___eq__ (P := P) (K := K) W) W.ne_Options (W.ty_Options).2.2.2 (hr.mono (by decide))) (pe_get W.c_Host W.n_Host_options RHost.l_options (pv 4)) (pe_dget hu (pv 7) pe_str (fun _ _ => rfl)) (nomark _)))))) (pss_one (ps_ret pe_bl)) pss_nil)
      (pss_cons (ps_for PassesOwn.never rfl (pi_list (pe_dget hu (pv 7) pe_str (fun _ _ => rfl))) (pg_name (i := 5) sc_law.nd rfl (Or.inl rfl)) (pss_one (ps_if (pt_cmpR (op_ne_dictA hr.units0) (pe_mt (ok_Host_status (P := P) (K := K) W) (hr.mono (by decide)) (pv 4) (pa_cons (pe_dget hu (pv 5) pe_str (fun _ _ => rfl)) pa_nil)) (pe_mt (ok_Host_status (P := P) (K := K) W) (hr.mono (by decide)) (pv 6) (pa_cons (pe_dget hu (pv 5) pe_str (fun _ _ => rfl)) pa_nil)) (nomark _)) (pss_one (ps_ret pe_bl)) pss_nil)))
      (pss_one (ps_ret (pe_cmpR (op_eqX (ok_Packet___eq__ (P := P) (K := K) W) (fun _ _ _ _ => PkEq.ext) (hr.mono (by decide))) (pe_mt0 (ok_Host_take (P := P) (K := K) W) (hr.mono (by decide)) (pv 4)) (pe_mt0 (ok_Host_take (P := P) (K := K) W) (hr.mono (by decide)) (pv 6)) (nomark _)))))))))))))), ?_⟩
    walk_at "s"
    refine ⟨a, ns, rfl, z1, ?_⟩
    intro p rs H1 f1 e1 h1 hl h0
    obtain ⟨r0, r1, r2, r3, r4, r5, rfl⟩ : ∃ r0 r1 r2 r3 r4 r5, rs = [r0, r1, r2, r3, r4, r5] := match rs, hl with
      | [a, b, c, d, e, f], _ => ⟨a, b, c, d, e, f, rfl⟩
    have h1 : H1 p = some (.lst [.int r0, .int r1, .int r2, .int r3, .int r4, .int r5]) := h1
    walk_at "s"
    refine c_asgG ?_
    walk_at "s"
    refine ⟨p, r0, r1, r2, r3, r4, r5, rfl, h1, ?_⟩
    intro B M g o ls lw taken F pq H2 ok bok e2 jok hpq hR
    have hp2 : H2 p = some (.lst [.int r0, .int r1, .int r2, .int r3, .int r4, .int r5]) := e2 _ _ h1
    have pR : p ∉ [B.h, B.S, B.P, M.w, M.E] := fun m => by rw [hR p m] at h1; cases h1
    clear hR e1 f1 h1 e2 z1
    obtain ⟨ba1, ba2, bn1, bn2, bc1, bc2, bl, bd, bv⟩ := bok
    walk_at "s"
    refine ⟨pq, _, rfl, SqL.of hpq, rfl, ?_⟩
    refine ⟨_, _, rfl, ?_⟩
    refine ⟨_, _, rfl, rfl, ?_⟩
    walk_at "s"
    refine c_loopR (n := (1 + r3 % 2).toNat) rfl (fun i σ G => (∃ v, σ = [some (.ref a), some (.ref p), v, none, none, none, some (.ref B.h), some (.ref M.w)]) ∧ G p = some (.lst [.int r0, .int r1, .int r2, .int r3, .int r4, .int r5]) ∧ ∃ (ks : List SkX) (qs : List PkX) (es : List LE) (F' : Hp), ks.length = i ∧ qs.length = i ∧ es.length = i ∧
      JOk K G B M ⟨g.addr, g.ctr + (i : Int), g.now⟩ o ls lw ks qs es taken F' ∧ (∀ y ∈ ks, y.k.port < 100 + (i : Int) ∧ y.k.cnt ≤ g.ctr + (i : Int)) ∧ (ks.map (·.k.cnt)).Nodup ∧ ∀ e ∈ es, EOk e) ?_ ?_ ?_
    · refine ⟨⟨_, rfl⟩, hp2, [], [], [], F, rfl, rfl, rfl, ?_, (fun y hy => by cases hy), List.nodup_nil, (fun y hy => by cases hy)⟩
      rw [show (⟨g.addr, g.ctr + ((0 : Nat) : Int), g.now⟩ : HD) = g by cases g; simp]
      exact jok
    · rintro i σ G hi ⟨⟨v, rfl⟩, hp, ks, qs, es, F', l1, l2, l3, J, hk, nd, hE⟩
      obtain ⟨r, hr⟩ : ∃ r, atI [.int r0, .int r1, .int r2, .int r3, .int r4, .int r5] (4 + (i : Int)) = some (V.int r) := by
        obtain rfl | rfl : i = 0 ∨ i = 1 := by omega
        · exact ⟨r4, rfl⟩
        · exact ⟨r5, rfl⟩
      walk_at "s"
      refine ⟨B, M, ⟨g.addr, g.ctr + (i : Int), g.now⟩, o, ls, lw, ks, qs, es, taken, F', r, (i : Int), rfl, J, ok, by omega, by omega, by omega, by omega, by omega, by show g.ctr + (i : Int) < 900; omega, ba1, fun y hy => ?_, ?_⟩
      · have := hk y hy
        exact ⟨by omega, this.2⟩
      intro y q9 e9 F2 G2 hy hel heo J2 kp2
      walk_at "s"
      have ey : e9.k = y.k := by
        have := congrArg List.getLast? J2.ek
        simp at this
        exact this.1.symm
      have ec : ((i + 1 : Nat) : Int) = (i : Int) + 1 := by omega
      refine ⟨⟨_, rfl⟩, kp2 _ _ hp pR, ks ++ [y], qs ++ [q9], es ++ [e9], F2, by simp [l1], by simp [l2], by simp [l3], ?_, ?_, ?_, ?_⟩
      · rw [show (⟨g.addr, g.ctr + ((i + 1 : Nat) : Int), g.now⟩ : HD) = ⟨g.addr, g.ctr + (i : Int) + 1, g.now⟩ by rw [ec, Int.add_assoc]]
        exact J2
      · intro u hu
        rcases List.mem_append.mp hu with hu | hu
        · have := hk u hu
          omega
        · rw [List.mem_singleton.mp hu, hy]
          dsimp only
          omega
      · rw [List.map_append, List.nodup_append]
        refine ⟨nd, by simp, ?_⟩
        intro c hc c' hc'
        obtain ⟨u, hu, rfl⟩ := List.mem_map.mp hc
        have h1 := (hk u hu).2
        have h2 : c' = y.k.cnt := by simpa using hc'
        rw [h2, hy]
        dsimp only
        omega
      · intro u hu
        rcases List.mem_append.mp hu with hu | hu
        · exact hE u hu
        · rw [List.mem_singleton.mp hu]
          refine ⟨?_, ?_, ?_, ?_, hel, heo⟩ <;> rw [ey, hy] <;> dsimp only <;> omega
    · rintro σ G ⟨⟨v, rfl⟩, hp, ks, qs, es, F', l1, l2, l3, J, hk, nd, hE⟩
      have hn : ((1 + r3 % 2).toNat : Int) ≤ 2 := by omega
      have hn2 : (1 + r3 % 2).toNat ≤ 2 := by omega
      have gb1 : 0 ≤ g.ctr + ((1 + r3 % 2).toNat : Int) ∧ g.ctr + ((1 + r3 % 2).toNat : Int) < 100000 := by omega
      obtain ⟨g', hg', hg1, hg2, hg3⟩ : ∃ g' : HD, g' = ⟨g.addr, g.ctr + ((1 + r3 % 2).toNat : Int), g.now⟩ ∧ (0 ≤ g'.addr ∧ g'.addr < 100000) ∧ (0 ≤ g'.ctr ∧ g'.ctr < 100000) ∧ (0 ≤ g'.now ∧ g'.now < 100000) := ⟨_, rfl, ⟨by show 0 ≤ g.addr; omega, ba2⟩, gb1, ⟨bn1, bn2⟩⟩
      rw [← hg'] at J
      have lk : ks.length ≤ 2 := by omega
      have lq : qs.length ≤ 2 := by omega
      have le : es.length ≤ 2 := by omega
      clear hp hk l1 l2 l3 gb1 hn hn2 jok hpq hp2
      have zw := J.hw
      have zh := J.h
      walk_at "s"
      refine c_split (fun σ' G' => (∃ v, σ' = [some (.ref a), some (.ref p), v, none, none, none, some (.ref B.h), some (.ref M.w)]) ∧ ∃ P2, FullOK K G' (B.setP P2) g' o ls ks (if taken = true then [] else qs) ∧ WOk K G' M g' o lw es taken) ?_ ?_ ?_
      · rintro σ' G' ⟨⟨v, rfl⟩, P2, fu, wo⟩
        have hC := lawC_codes (ls := ls) J.ek J.eq taken
        have hN := lawC_nums (taken := taken) ok hg1 hg2 hg3 (by omega) bv (by omega) hE
        have qo : ∀ q ∈ (if taken = true then [] else qs), q.ns.length ≤ 900 := fun q hq => by
          have hm : (q.a, q.t, q.ns) ∈ qs.map fun q => (q.a, q.t, q.ns) := by
            split at hq
            · cases hq
            · exact List.mem_map_of_mem hq
          rw [J.eq] at hm
          obtain ⟨e, _, he⟩ := List.mem_map.mp hm
          have : q.ns = enc g'.addr e.k.peer (segO e.k o g'.now) := by
            have := congrArg (fun z : Int × Int × List Int => z.2.2) he
            exact this.symm
          rw [this, enc_len]
          decide
        have ko : ∀ y ∈ ks, y.d.octs.length ≤ 900 ∧ ∃ z, y.d.alarm = .int z := fun y hy => by
          have hm : (y.k, y.d) ∈ ks.map fun y => (y.k, y.d) := List.mem_map_of_mem hy
          rw [J.ek] at hm
          obtain ⟨e, hem, he⟩ := List.mem_map.mp hm
          have : y.d = dF o g'.now e.os e.fin e.ab := (congrArg (fun z : SkD × EndD => z.2) he).symm
          rw [this]
          have := (hE e hem).l
          exact ⟨by show e.os.length ≤ 900; omega, _, rfl⟩
        have ql : (if taken = true then [] else qs).length ≤ 100 := by
          split
          · decide
          · omega
        have eo : ∀ y ∈ es, y.os.length ≤ 900 := fun y hy => by have := (hE y hy).l; omega
        have lel : lw.length ≤ 100 := by have := congrArg List.length J.el; simp at this; omega
        have ek := J.ek
        have eq := J.eq
        have el := J.el
        generalize hqs : (if taken = true then [] else qs) = qs' at fu hC qo ql
        clear zw zh J
        walk_at "s"
        refine u_LText wo ok lel (by omega) eo (by rw [el]; exact hN) ?_
        rw [el, ← hC]
        rw [← hC] at hN
        walk_at "s"
        rename_i H3 e3
        have fu3 := fu.sm e3
        have wo3 := wo.ext e3
        clear fu wo e3
        walk_at "s"
        refine u_Save (B := B.setP P2) fu3 (nodup_uni bd) (by omega) (by omega) ql ko qo hN ?_
        walk_at "s"
        rename_i H4 e4
        refine br_f (by simp) ?_
        have fu4 := fu3.sm e4
        have wo4 := wo3.ext e4
        clear fu3 wo3 e4
        walk_at "s"
        refine u_Save (B := B.setP P2) fu4 (nodup_uni bd) (by omega) (by omega) ql ko qo hN ?_
        walk_at "s"
        rename_i H5 e5
        refine br_f (by simp) ?_
        have fu5 := fu4.sm e5
        have wo5 := wo4.ext e5
        clear fu4 wo4 e5
        walk_at "s"
        refine u_Load ok bd (by omega) (by omega) ql ko qo hN ?_
        intro B2 ks2 qs2 H6 f61 f62 f63 n6 e6 fuB sd
        have fu6 := fu5.sm e6
        have wo6 := wo5.ext e6
        have sc := sd.codes g' o ls
        have lk2 : ks2.length = ks.length := by simpa using congrArg List.length sd.k
        have lq2 : qs2.length = qs'.length := by simpa using congrArg List.length sd.q
        have ko2 : ∀ y ∈ ks2, y.d.octs.length ≤ 900 ∧ ∃ z, y.d.alarm = .int z := fun y hy => by
          have hm : (y.k, y.d) ∈ ks2.map fun y => (y.k, y.d) := List.mem_map_of_mem hy
          rw [sd.k] at hm
          obtain ⟨e, hem, he⟩ := List.mem_map.mp hm
          have : y.d = e.d := (congrArg (fun z : SkD × EndD => z.2) he).symm
          rw [this]
          exact ko e hem
        have qo2 : ∀ q ∈ qs2, q.ns.length ≤ 900 := fun q hq => by
          have hm : (q.a, q.t, q.ns) ∈ qs2.map fun q => (q.a, q.t, q.ns) := List.mem_map_of_mem hq
          rw [sd.q] at hm
          obtain ⟨e, hem, he⟩ := List.mem_map.mp hm
          have : q.ns = e.ns := (congrArg (fun z : Int × Int × List Int => z.2.2) he).symm
          rw [this]
          exact qo e hem
        have nBh : B2.h ≠ B.h := ne_fresh f61 fu5.h |>.symm
        walk_at "s"
        refine u_Save fuB (nodup_uni bd) (by omega) (by omega) (by omega) ko2 qo2 (by rw [sc]; exact hN) ?_
        rw [sc]
        walk_at "s"
        rename_i H7 e7
        refine br_f (by simp) ?_
        have fu7 := fu6.sm e7
        have wo7 := wo6.ext e7
        have fuB7 := fuB.sm e7
        clear fu5 wo5 fu6 wo6 fuB e6 e7
        have zB2 := fuB7.h
        have zB := fu7.h
        have hcn : ks2.map (fun y => y.k.cnt) = ks.map fun y => y.k.cnt := by
          have := congrArg (List.map fun z : SkD × EndD => z.1.cnt) sd.k
          simpa [List.map_map, Function.comp_def] using this
        walk_at "s"
        refine u_Sockets (B := B2) (g := g') (l := ks2.map fun y => (y.x, y.k)) zB2 (by rw [List.map_map]; exact fuB7.S) (fun y hy => ?_) (by rw [List.length_map]; omega) ?_
        · obtain ⟨u, hu, rfl⟩ := List.mem_map.mp hy
          exact (fuB7.kA u hu).1
        walk_at "s"
        rename_i q8 H8 f8 e8 h8
        have fu8 := fu7.sm e8
        refine u_Sockets (B := B.setP P2) (g := g') (l := ks.map fun y => (y.x, y.k)) fu8.h (by rw [List.map_map]; exact fu8.S) (fun y hy => ?_) (by rw [List.length_map]; omega) ?_
        · obtain ⟨u, hu, rfl⟩ := List.mem_map.mp hy
          exact (fu8.kA u hu).1
        walk_at "s"
        rename_i q9 H9 f9 e9 h9
        refine c_neL (ns := ks.map fun y => y.k.cnt) (lk_eq (by walk_at "look") (by rw [← hcn]; simp)) (lk_eq (by walk_at "look") (by simp)) ?_
        have fu9 := fu8.sm e9
        have wo9 := (wo7.ext e8).ext e9
        have fuB9 := (fuB7.sm e8).sm e9
        clear fu7 wo7 fuB7 fu8 e8 e9 h8 h9 zB zB2
        have zB2 := fuB9.h
        have zw := wo9.hw
        walk_at "s"
        refine br_f (nd_f rfl) ?_
        walk_at "s"
        refine br_f (nd_f rfl) ?_
        walk_at "s"
        refine br_f (nd_f rfl) ?_
        walk_at "s"
        refine ⟨⟨B2.oa, M.oa, _, _, _, _, rfl, rfl, fuB9.oa, wo9.ho, _, _, o, fuB9.oa, wo9.ho⟩, fun H10 e10 => ?_⟩
        walk_at "s"
        have fu10 := fu9.sm e10
        have wo10 := wo9.ext e10
        have fuB10 := fuB9.sm e10
        clear fu9 wo9 fuB9 zB2 zw e10
        have zE := wo10.hE
        have zw := wo10.hw
        have nd2 : (ks2.map fun y => y.k.cnt).Nodup := by rw [hcn]; exact nd
        walk_at "s"
        refine c_loopL (xs := es.map fun y => .ref y.e) (fun i σ G => (∃ u, σ = [some (.ref a), some (.ref p), v, some (.str (textS (codesN g' o ls ks qs'))), some (.ref B2.h), u, some (.ref B.h), some (.ref M.w)]) ∧ Same H10 G) ?_ ?_ ?_ ?_
        · exact ⟨⟨_, rfl⟩, by walk_at "same"⟩
        · rintro i σ G ⟨_, e⟩
          walk_at "look"
        · rintro i x σ G hx ⟨⟨u, rfl⟩, e⟩
          rw [List.getElem?_map] at hx
          cases hi : es[i]? with
          | none => rw [hi] at hx; cases hx
          | some y =>
            rw [hi] at hx
            obtain rfl := Option.some.inj hx
            have hm := List.mem_of_getElem? hi
            have mk : (y.k, dF o g'.now y.os y.fin y.ab) ∈ es.map fun y => (y.k, dF o g'.now y.os y.fin y.ab) := List.mem_map_of_mem hm
            rw [← ek] at mk
            obtain ⟨y1, hy1, e1⟩ := List.mem_map.mp mk
            have mk2 : (y1.k, y1.d) ∈ ks.map fun y => (y.k, y.d) := List.mem_map_of_mem hy1
            rw [← sd.k] at mk2
            obtain ⟨y2, hy2, e2⟩ := List.mem_map.mp mk2
            have k1 : y.k = y1.k := (congrArg (fun z : SkD × EndD => z.1) e1).symm
            have k2 : y1.k = y2.k := (congrArg (fun z : SkD × EndD => z.1) e2).symm
            have d2 : y2.d = y1.d := congrArg (fun z : SkD × EndD => z.2) e2
            obtain ⟨z1, z2⟩ := wo10.aE y hm
            have fuG := fu10.sm e
            have fuBG := fuB10.sm e
            have zB := fuG.h
            have zB2 := fuBG.h
            rw [k1, k2] at z1
            walk_at "s"
            refine u_Status (fuBG.hs nd2 hy2) ?_
            intro p3 G3 f3 e3 h3
            have fuG3 := fuG.sm e3
            walk_at "s"
            rw [← k2]
            refine u_Status (fuG3.hs nd hy1) ?_
            intro p4 G4 f4 e4 h4
            have h3 : G3 p3 = some (.dK (statD y1.k o y1.d)) := by
              rw [h3]
              show some (HO.dK (statD y2.k o y2.d)) = _
              rw [← k2, d2]
            have h4 : G4 p4 = some (.dK (statD y1.k o y1.d)) := h4
            refine ⟨p3, p4, _, _, rfl, rfl, by walk_at "look", h4, rfl, stat_self, ?_⟩
            walk_at "s"
            exact ⟨⟨_, rfl⟩, by walk_at "same"⟩
        · rintro σ G ⟨⟨u, rfl⟩, e⟩
          have fuG := fu10.sm e
          have fuBG := fuB10.sm e
          have zB := fuG.h
          have zB2 := fuBG.h
          walk_at "s"
          refine u_Take zB2 ?_
          intro P3 G2 fP3 e2 hB3 hP3
          have nb : B.h ≠ B2.h := nBh.symm
          walk_at "s"
          refine u_Take (B := B.setP P2) (g := g') (e2 _ _ zB (by simpa using nb)) ?_
          intro P4 G3 fP4 e3 hB4 hP4
          have lf : ∀ b (xs : List V), G b = some (.lst xs) → G3 b = some (.lst xs) := fun b xs h => e3 _ _ (e2 _ _ h (by simpa using kind_neq h zB2 (by kernel_rfl))) (by simpa using kind_neq h zB (by kernel_rfl))
          have pf : ∀ {p dx oc : Addr} {s t : Int} {ns : List Int}, PkOK K G p dx oc s t ns → PkOK K G3 p dx oc s t ns := fun h => ⟨e3 _ _ (e2 _ _ h.hp (by simpa using kind_neq h.hp zB2 (by kernel_rfl))) (by simpa using kind_neq h.hp zB (by kernel_rfl)), lf _ _ h.ho⟩
          refine ⟨⟨_, _, _, _, rfl, rfl, lf _ _ fuBG.P, lf _ _ fuG.P, by simpa using lq2, fun i x y hx hy => ?_⟩, fun H' _ => q H'⟩
          rw [List.getElem?_map] at hx hy
          cases hi : qs2[i]? with
          | none => rw [hi] at hx; cases hx
          | some u1 =>
            cases hj : qs'[i]? with
            | none => rw [hj] at hy; cases hy
            | some u2 =>
              rw [hi] at hx
              rw [hj] at hy
              obtain rfl := Option.some.inj hx
              obtain rfl := Option.some.inj hy
              have g1 := pf (fuBG.pA u1 (List.mem_of_getElem? hi))
              have g2 := pf (fuG.pA u2 (List.mem_of_getElem? hj))
              have e4 : (qs2.map fun q => (q.a, q.t, q.ns))[i]? = (qs'.map fun q => (q.a, q.t, q.ns))[i]? := by rw [sd.q]
              rw [List.getElem?_map, List.getElem?_map, hi, hj] at e4
              have e5 : (u1.a, u1.t, u1.ns) = (u2.a, u2.t, u2.ns) := Option.some.inj e4
              simp only [Prod.mk.injEq] at e5
              rw [e5.1, e5.2.1, e5.2.2] at g1
              exact ⟨u1.p, u2.p, _, _, _, _, rfl, rfl, g1.hp, g2.hp, _, _, _, _, _, _, _, g1, g2⟩
      · intro c1 N jn
        walk_at "s"
        refine u_Take zh ?_
        intro P2 G2 fP e2 hB2 hP2
        walk_at "s"
        have n1 : ∀ b u, F' b = some u → b ∉ [B.h] := fun b u h m => by
          rw [List.mem_singleton.mp m, J.fr.1] at h
          cases h
        have s2 : Same F' G2 := fun b u h => e2 b u (J.sub b u h) (n1 b u h)
        obtain ⟨d1, d2, d3, d4, d5, d6, d7⟩ := J.dst
        refine jn _ _ ⟨⟨_, rfl⟩, P2, ?_, J.wok s2 (e2 _ _ J.hw (by simpa using d2)) (e2 _ _ J.hE (by simpa using d5))⟩
        rw [if_pos c1]
        exact J.full s2 hB2 (e2 _ _ J.S (by simpa using J.ba.hS.symm)) hP2 (fun q hq => by cases hq)
      · intro c1 N jn
        walk_at "s"
        refine jn _ _ ⟨⟨_, rfl⟩, B.P, ?_, J.wok J.sub J.hw J.hE⟩
        rw [if_neg (by rw [c1]; exact Bool.false_ne_true)]
        exact J.full J.sub J.h J.S J.P (fun q hq => ⟨J.sub _ _ (J.pA q hq).hp, J.sub _ _ (J.pA q hq).ho⟩)
theorem ok_law (W : Wld K mg) : GFn P w K mg base "law" 20 ["_law_script"] (spLaw K) := by
  obtain ⟨fd, F1, F⟩ := fo_law (P := P) (w := w) (base := base) W
  exact ⟨⟨_, fd, F1, W.g_law, F.kp, F.bindsN fun _ _ _ _ _ _ us hl => match us, hl with | [_], _ => rfl⟩⟩
end
end
end K99
/-! part F9 -/
section
set_option maxHeartbeats 0
noncomputable section
namespace K99
open PySem PySem.Spec PyProof.Rows L2 PySem.W PySem.Calls HandSHeadRun
instance prOkL : PrOk rwL.prog := ⟨by kernel_rfl, by kernel_rfl⟩
theorem funD_one {K : Frag} {x qual : Str} {params : Arguments} {body : List Stmt} {scope : Scope} {dvs : List V} {kws : List (Str × V)} {f : Addr} {fd fd' : FuncData} (F : FunD K x qual params body scope dvs kws f fd) (F' : FunD K x qual params body scope dvs kws f fd') : fd' = fd := by
  obtain ⟨oc, od, dV, kV, doc, pm, an, cdv, ct, osl, _, lk, _⟩ := F.ex
  obtain ⟨oc', od', dV', kV', doc', pm', an', cdv', ct', osl', _, lk', _⟩ := F'.ex
  have e := Option.some.inj (lk'.symm.trans lk)
  simp only [Obj.mk.injEq, Data.func.injEq] at e
  exact e.2.2.1
theorem facts {w : World} {K : Frag} {mg : Str → Option Value} {h : Heap} {fa : Addr} (KX : K.In h) (G : h.Ns mainGlobals mg) (c : obsM K = valM) (hfa : mg ("law" : Str) = some (.ref fa)) :
    ∃ fd : FuncData, (∀ (s : Shared) (v : Value), BindsTo s fd ⟨[v], []⟩ [("_law_script", v)]) ∧ ∀ base : Heap, K.In base → base.Ns mainGlobals mg → FnOk rwL.prog w K mg base CX0 20 fa fd ["_law_script"] (spLaw K) := by
  have W : Wld K mg := ⟨c, h, KX, G⟩
  obtain ⟨fd, F⟩ := W.d_law
  have e := hfa.symm.trans W.g_law
  have e2 : fa = pl_law.ad K := by
    simp only [Option.some.injEq, Value.ref.injEq] at e
    exact e
  subst e2
  have b := FunD.bindsA (ps := ["_law_script"]) F fun _ _ _ _ _ _ us hl => match us, hl with | [_], _ => rfl
  refine ⟨fd, fun s v => b s [v] rfl, fun base _ _ => ?_⟩
  obtain ⟨fd', F1, F'⟩ := fo_law (P := rwL.prog) (w := w) (base := base) W
  obtain rfl := funD_one F F'
  exact F1
end K99
end
open PySem PySem.W PySem.Calls PyProof.Rows
theorem PySem.Challenge.cw_throughline_k99_whole_saved_text_holds : PySem.Challenge.rw_throughline_k99_whole_saved_text.Holds := by
  refine K99.lawOf fun said => ?_
  refine PySem.W.holds_open (r := K99.R) (q := K99.qv) (loose := K99.loose) (XP := XL K99.qv []) (YP := K99.hkM.says) (d := K99.dL) (kwd := []) (K99.leftM K99.look1 K99.look2) K99.hkM.of K99.hkM.keeps (fun s z => xl_of s (Bool.and_eq_true_iff.mp z).1) XL.keeps
    K99.look3 K99.look4 K99.look5 (fun s z => recFacts_of (Bool.and_eq_true_iff.mp z).2) K99.look6 said K99.look7 K99.bareL ?hw ?hc
  case hw => w_witness2
  case hc =>
    refine L2.walk_ofE (l := PySem.Challenge.rw_throughline_k99_whole_saved_text) (n := 63) (k := 20) (x := "_law_script") (CX := L2.CX0) rfl (by decide) K99.look9 ⟨rfl, by decide, by decide⟩ ?F (fun _ _ _ _ z => z)
    intro w mg fa h Y G hmg0
    obtain ⟨K, KX, c⟩ := Y
    have hmg : mg ("law" : PySem.Str) = some (.ref fa) := by
      rw [← K99.look8]
      exact hmg0
    obtain ⟨fd, hb, hF⟩ := K99.facts (w := w) KX G c hmg
    exact ⟨K, fd, K99.spLaw K, KX, hb, fun H a ns hl _ hS => ⟨a, ns, rfl, hS, fun _ => rfl⟩, hF⟩
end
