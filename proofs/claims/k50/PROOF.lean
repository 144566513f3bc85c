import PyProof.Rows.All
import Wide.All
import OpenK.AllK
import Wide.FinOn
import HandS.ForMost
import HandS.ForExc
import HandS.IsInst
import HandS.ExcIs
import HandS.More
import HandS.Walk
import HandS.Wide
import HandS.Replace
import HandS.NoneIn
import HandS.Conv
import HandS.Defaults
import HandS.Style
import HandS.Zip
import HandS.Sort
import KE.DataMinMax
import KE.GoesEnum
import PyProof.Rows.StrRev
import HandS.Codes
import HandS.WordsExc
import KE.KEqDict
import HandS.DictComp
import HandS.HotCalls
import HandS.Exc
import HandS.ExcValue
import HandS.List
import PyProof.EqAt
import HandS.ExcOwn
import HandS.Head0
import HandS.Head1
import HandS.Head2
import HandS.HeadEnd
import HandS.HeadHook1
import HandS.HeadHook2
import HandS.HeadHook3
import HandS.HeadHook4
import PySem.Challenge.RW_bracketrows_k50_whole_a_long_day
set_option Elab.async false
set_option linter.all false
set_option maxRecDepth 100000
set_option maxHeartbeats 4000000
/-! K0: short words for the whole text: a def by its name (Dk), a method (Dm), a maker (Dc), what the top has written (Txt). -/
namespace BR
open PySem PySem.Spec PyProof.Rows L2
def topS (i : Nat) : Stmt := PySem.Challenge.pw_bracketrows_k50_whole_a_long_day.main.body.getD i (.Pass ⟨0, 0, 0, 0⟩)
abbrev FunP (K : PySem.W.Frag) (x qual : Str) (st : Stmt) (f : Addr) (fd : FuncData) : Prop := FunD K x qual (defArgs st) (defBody st) (defScope st) [] [] f fd
/-- a text by its code points -/
def Tx (l : List Nat) : Str := ⟨l.toArray⟩
theorem Tx_inj {a b : List Nat} (h : Tx a = Tx b) : a = b := by
  have h1 : a.toArray.toList = b.toArray.toList := congrArg (fun s : Str => s.cps.toList) h
  simpa using h1
theorem Tx_cps (l : List Nat) : (Tx l).cps.toList = l := by simp [Tx]
theorem Tx_len (l : List Nat) : (Tx l).length = l.length := by
  show l.toArray.size = l.length
  simp
theorem Tx_one (c : Nat) : (⟨#[c]⟩ : Str) = Tx [c] := rfl
theorem Tx_app (a b : List Nat) : Tx a ++ Tx b = Tx (a ++ b) := by
  show (⟨a.toArray ++ b.toArray⟩ : Str) = ⟨(a ++ b).toArray⟩
  simp
theorem Tx_eta (s : Str) : Tx s.cps.toList = s := by
  show (⟨s.cps.toList.toArray⟩ : Str) = s
  simp
/-- an exception class of the text -/
structure ExcT (K : PySem.W.Frag) (mg : Str → Option Value) (x : Str) (C : Addr) : Prop where
  g : mg x = some (.ref C)
  ec : PySem.W.excIn K C [.type "ValueError", .type "Exception", .type "BaseException", .type "object"] "ValueError.__new__" = true
  kp : PySem.W.keepIn K (.ref C) = true
  sb : PySem.W.subIn K (.ref C) (.type "BaseException") = some true
  ty : PySem.W.typeIn K (.ref C) = some (.type "type")
theorem ExcT.mk' {X : Cx} {x : Str} {C : Addr} (T : ExcT X.K X.mg x C) {m : Str} {j : Nat} {p p2 pos : Pos} (hg : Gl X x := by rfl) (hdb : (x == ("__debug__" : Str)) = false := by decide) :
    PMk X (.Call (.Name x p) [.Constant (.str m) j p2] [] pos) (fun _ H Q => Q (.ref C) none H) :=
  pmk_own PySem.F.excBase_ValueError T.ec T.g T.kp (raises_own T.sb T.ty) hg hdb
/-- a def of the module, by its name -/
structure Dk (P : Program) (w : World) (K : PySem.W.Frag) (mg : Str → Option Value) (base : Heap) (CX : CXT) (k : Nat) (x : Str) (ps : List Str) (sp : Sp) : Prop where
  ex : ∃ f fd, mg x = some (.ref f) ∧ PySem.W.keepIn K (.ref f) = true ∧ Binds K fd ps [] ∧ FnOk P w K mg base CX k f fd ps sp
/-- a method -/
structure Dm (P : Program) (w : World) (K : PySem.W.Frag) (mg : Str → Option Value) (base : Heap) (CX : CXT) (k : Nat) (C : Addr) (m : Str) (ps : List Str) (sp : Sp) : Prop where
  ex : ∃ f fd, Cls K C ∧ Meth K C m f ∧ Binds K fd ps [] ∧ FnOk P w K mg base CX k f fd ps sp
/-- a class that is made -/
structure Dc (P : Program) (w : World) (K : PySem.W.Frag) (mg : Str → Option Value) (base : Heap) (CX : CXT) (k : Nat) (x : Str) (C : Addr) (ps : List Str) (sp : Sp) : Prop where
  ex : ∃ f fd, mg x = some (.ref C) ∧ Mk K C f ∧ Binds K fd ps [] ∧ FnOk P w K mg base CX k f fd ps sp
section
variable {X : Cx} {CX : CXT} {k j : Nat} {C : Addr} {x m : Str} {ps : List Str} {sp : Sp} {E : XK} {e1 o : Expr} {er : List Expr} {t : TA} {ta : TE} {p pos apos : Pos}
theorem Dk.call (G : Dk X.prog X.w X.K X.mg X.base CX k x ps sp) (hr : Room j X.A) (hx : Passes CX X E) (ha : PA X (e1 :: er) t) (hk : k ≤ j := by decide) (hg : Gl X x := by rfl) (hdb : (x == ("__debug__" : Str)) = false := by decide)
    (he : starEach (e1 :: er) X.env = (false, eval e1 X.env) :: starEach er X.env := by rfl) (hpl : (backTo pos (starEach er X.env)).any (·.1) = false := by rfl) : PE X (.Call (.Name x p) (e1 :: er) [] pos) (tCall sp [] E t) := by
  obtain ⟨f, fd, hm, hkp, hb, F⟩ := G.ex
  exact pe_call F (hr.mono hk) hg hm hkp hb .nil hx ha hdb he hpl
theorem Dk.callS {W : WX} (G : Dk X.prog X.w X.K X.mg X.base (L2.CX X.prog X.w) k x ps sp) (hr : Room j X.A) (tk : Takes X W) (ha : PA X (e1 :: er) t) (hk : k ≤ j := by decide) (hg : Gl X x := by rfl) (hdb : (x == ("__debug__" : Str)) = false := by decide)
    (he : starEach (e1 :: er) X.env = (false, eval e1 X.env) :: starEach er X.env := by rfl) (hpl : (backTo pos (starEach er X.env)).any (·.1) = false := by rfl) : PE X (.Call (.Name x p) (e1 :: er) [] pos) (tCallS sp (WE W) t) := by
  obtain ⟨f, fd, hm, hkp, hb, F⟩ := G.ex
  exact pe_callS F (hr.mono hk) hg hm hkp hb (fun σ => passAt tk σ) ha hdb he hpl
theorem Dm.meth {pl : Sem Bool} (G : Dm X.prog X.w X.K X.mg X.base CX k C m ps sp) (hr : Room j X.A) (hx : Passes CX X E) (ho : PE X o ta) (ha : PA X (e1 :: er) t) (hk : k ≤ j := by decide)
    (hst : starEach (e1 :: er) X.env = (false, eval e1 X.env) :: starEach er X.env := by rfl) (hpl : (backTo pos (starEach er X.env)).any (·.1) = false := by rfl)
    (ht : eval (.Call (.Attribute o m apos) (e1 :: er) [] pos) X.env = (do
      let v ← eval o X.env
      standAt apos.atName
      let (g, fst) ← holding [v] (getMethod v m pl)
      callWith pos g fst (backTo pos (starEach (e1 :: er) X.env)) (backToKw pos (keywordEach [] X.env))) := by rfl) : PE X (.Call (.Attribute o m apos) (e1 :: er) [] pos) (tMeth C m sp [] E ta t) := by
  obtain ⟨f, fd, c, hm, hb, F⟩ := G.ex
  exact pe_meth ho c hm F (hr.mono hk) hb .nil hx ha hst hpl ht
theorem Dm.meth0 {pl : Sem Bool} (G : Dm X.prog X.w X.K X.mg X.base CX k C m ps sp) (hr : Room j X.A) (hx : Passes CX X E) (ho : PE X o ta) (hk : k ≤ j := by decide)
    (ht : eval (.Call (.Attribute o m apos) [] [] pos) X.env = (do
      let v ← eval o X.env
      standAt apos.atName
      let (g, fst) ← holding [v] (getMethod v m pl)
      callWith pos g fst (backTo pos (starEach [] X.env)) (backToKw pos (keywordEach [] X.env))) := by rfl) : PE X (.Call (.Attribute o m apos) [] [] pos) (tMeth C m sp [] E ta tNil) := by
  obtain ⟨f, fd, c, hm, hb, F⟩ := G.ex
  exact pe_meth0 ho c hm F (hr.mono hk) hb .nil hx ht
theorem Dc.make (G : Dc X.prog X.w X.K X.mg X.base CX k x C ps sp) (hr : Room j X.A) (hx : Passes CX X E) (ha : PA X (e1 :: er) t) (hk : k + 1 ≤ j := by decide) (hg : Gl X x := by rfl) (hdb : (x == ("__debug__" : Str)) = false := by decide)
    (he : starEach (e1 :: er) X.env = (false, eval e1 X.env) :: starEach er X.env := by rfl) (hpl : (backTo pos (starEach er X.env)).any (·.1) = false := by rfl) : PE X (.Call (.Name x p) (e1 :: er) [] pos) (tMake C sp [] E t) := by
  obtain ⟨f, fd, hm, M, hb, F⟩ := G.ex
  exact pe_make M F (hr.mono hk) hg hm hb .nil hx ha hdb he hpl
theorem Dc.make0 (G : Dc X.prog X.w X.K X.mg X.base CX k x C ps sp) (hr : Room j X.A) (hx : Passes CX X E) (hk : k + 1 ≤ j := by decide) (hg : Gl X x := by rfl) (hdb : (x == ("__debug__" : Str)) = false := by decide) :
    PE X (.Call (.Name x p) [] [] pos) (tMake C sp [] E tNil) := by
  obtain ⟨f, fd, hm, M, hb, F⟩ := G.ex
  exact pe_make0 M F (hr.mono hk) hg hm hb .nil hx hdb
theorem pe_gS {z : Str} (h : ∃ t, X.mg x = some (.str z t)) (hg : Gl X x := by rfl) (hd : (x == ("__debug__" : Str)) = false := by decide) : PE X (.Name x pos) (tC (.str z)) := by
  obtain ⟨t, e⟩ := h
  exact pe_glob hg e ⟨t, rfl⟩ hd
theorem pe_gI {z : Int} (h : ∃ t, X.mg x = some (.int z t)) (hg : Gl X x := by rfl) (hd : (x == ("__debug__" : Str)) = false := by decide) : PE X (.Name x pos) (tC (.int z)) := by
  obtain ⟨t, e⟩ := h
  exact pe_glob hg e ⟨t, rfl⟩ hd
end
def lBR : List Nat := [40, 41, 91, 93, 123, 125, 60, 62]
def lOP : List Nat := [40, 91, 123, 60]
def lCL : List Nat := [41, 93, 125, 62]
def lLET : List Nat := [97, 98, 99, 100, 101, 102, 103, 104, 105, 106, 107, 108, 109, 110, 111, 112, 113, 114, 115, 116, 117, 118, 119, 120, 121, 122]
def lFIG : List Nat := [48, 49, 50, 51, 52, 53, 54, 55, 56, 57]
/-- a class of the text by its name -/
abbrev cA (K : PySem.W.Frag) (x : Str) : Addr := match PySem.W.nsIn K mainGlobals x with
  | some (some (.ref a)) => a
  | _ => 0
/-- what the top has written -/
structure Txt (K : PySem.W.Frag) (mg : Str → Option Value) : Prop where
  b_ValueError : mg "ValueError" = none
  b_bool : mg "bool" = none
  b_enumerate : mg "enumerate" = none
  b_int : mg "int" = none
  b_isinstance : mg "isinstance" = none
  b_len : mg "len" = none
  b_list : mg "list" = none
  b_max : mg "max" = none
  b_min : mg "min" = none
  b_range : mg "range" = none
  b_sorted : mg "sorted" = none
  b_str : mg "str" = none
  b_sum : mg "sum" = none
  b_zip : mg "zip" = none
  c_BRACKETS : ∃ t, mg "BRACKETS" = some (.str (Tx lBR) t)
  c_OPENING : ∃ t, mg "OPENING" = some (.str (Tx lOP) t)
  c_CLOSING : ∃ t, mg "CLOSING" = some (.str (Tx lCL) t)
  c_UNKNOWN : ∃ t, mg "UNKNOWN" = some (.str (Tx [63]) t)
  c_LETTERS : ∃ t, mg "LETTERS" = some (.str (Tx lLET) t)
  c_FIGURES : ∃ t, mg "FIGURES" = some (.str (Tx lFIG) t)
  c_MOST_KINDS : ∃ t, mg "MOST_KINDS" = some (.int 4 t)
  c_MOST_SIGNS : ∃ t, mg "MOST_SIGNS" = some (.int 40 t)
  c_MOST_LETTERS : ∃ t, mg "MOST_LETTERS" = some (.int 8 t)
  c_MOST_FIGURES : ∃ t, mg "MOST_FIGURES" = some (.int 9 t)
  c_FIRST_KINDS : ∃ t, mg "FIRST_KINDS" = some (.int 4 t)
  x_NoFilling : ExcT K mg "NoFilling" (cA K "NoFilling")
  x_NoKinds : ExcT K mg "NoKinds" (cA K "NoKinds")
  x_NoLine : ExcT K mg "NoLine" (cA K "NoLine")
  x_NoName : ExcT K mg "NoName" (cA K "NoName")
  x_NoNumber : ExcT K mg "NoNumber" (cA K "NoNumber")
  x_NoRow : ExcT K mg "NoRow" (cA K "NoRow")
  x_NotRight : ExcT K mg "NotRight" (cA K "NotRight")
  g_FORMS : mg "FORMS" = some (.ref (cA K "FORMS"))
  g_WITH_ROW : mg "WITH_ROW" = some (.ref (cA K "WITH_ROW"))
  g_RowError : mg "RowError" = some (.ref (cA K "RowError"))
  g_NoPlace : mg "NoPlace" = some (.ref (cA K "NoPlace"))
  g_NoTree : mg "NoTree" = some (.ref (cA K "NoTree"))
  g_NoWeights : mg "NoWeights" = some (.ref (cA K "NoWeights"))
  g_TooMany : mg "TooMany" = some (.ref (cA K "TooMany"))
theorem Txt.g_NoFilling {K : PySem.W.Frag} {mg : Str → Option Value} (T : Txt K mg) : mg "NoFilling" = some (.ref (cA K "NoFilling")) := T.x_NoFilling.g
theorem Txt.g_NoKinds {K : PySem.W.Frag} {mg : Str → Option Value} (T : Txt K mg) : mg "NoKinds" = some (.ref (cA K "NoKinds")) := T.x_NoKinds.g
theorem Txt.g_NoLine {K : PySem.W.Frag} {mg : Str → Option Value} (T : Txt K mg) : mg "NoLine" = some (.ref (cA K "NoLine")) := T.x_NoLine.g
theorem Txt.g_NoName {K : PySem.W.Frag} {mg : Str → Option Value} (T : Txt K mg) : mg "NoName" = some (.ref (cA K "NoName")) := T.x_NoName.g
theorem Txt.g_NoNumber {K : PySem.W.Frag} {mg : Str → Option Value} (T : Txt K mg) : mg "NoNumber" = some (.ref (cA K "NoNumber")) := T.x_NoNumber.g
theorem Txt.g_NoRow {K : PySem.W.Frag} {mg : Str → Option Value} (T : Txt K mg) : mg "NoRow" = some (.ref (cA K "NoRow")) := T.x_NoRow.g
theorem Txt.g_NotRight {K : PySem.W.Frag} {mg : Str → Option Value} (T : Txt K mg) : mg "NotRight" = some (.ref (cA K "NotRight")) := T.x_NotRight.g
/-! ### heaps, tests -/
theorem same_upd {H : Hp} {p : Addr} {o : HO} (h : H p = none) : Same H (upd H p o) := fun b x e => by
  rw [upd_ne (ne_of_none e h)]
  exact e
theorem sl_le {n : Nat} (h : n ≤ 100000) : n ≤ sizeLine := Nat.le_trans h (by decide)
theorem sl_lt {n : Nat} (h : n < 100000) : n < sizeLine := Nat.lt_of_lt_of_le h (by decide)
theorem iteB {c : Bool} {A B : Prop} (h1 : c = true → A) (h2 : c = false → B) : if c = true then A else B := by
  cases c with
  | true => exact iteT (h1 rfl)
  | false => exact iteF (h2 rfl)
/-- a text of plain signs -/
def As (l : List Nat) : Prop := ∀ c ∈ l, c < 128
/-- a list of flat things against the empty one -/
def Fl (x : V) : Prop := (∃ i, x = V.int i) ∨ ∃ l, x = V.str (Tx l) ∧ As l
theorem as_ok {l : List Nat} (h : As l) : PyData.canLay0 (.str (Tx l)) = true := by
  show PyData.strOk (Tx l) = true
  unfold PyData.strOk
  simp only [Tx, List.all_toArray, List.all_eq_true]
  intro c hc
  have := h c hc
  simp
  omega
theorem flat_data {K : PySem.W.Frag} {H : Hp} : ∀ l : List V, (∀ x ∈ l, Fl x) → ∃ ds : List PyData, DpAll K H l ds ∧ PyData.canLayAll0 ds = true ∧ PyData.depthAll ds = 0 ∧ ds.isEmpty = l.isEmpty
  | [], _ => ⟨[], .nil, rfl, rfl, rfl⟩
  | x :: r, h => by
    obtain ⟨ds, d1, d2, d3, _⟩ := flat_data (K := K) (H := H) r fun y hy => h y (List.mem_cons_of_mem _ hy)
    rcases h x List.mem_cons_self with ⟨i, rfl⟩ | ⟨z, rfl, hz⟩
    · exact ⟨.int i :: ds, .cons (.int i) d1, by simp [PyData.canLayAll0, PyData.canLay0, d2], by simp [PyData.depthAll, PyData.depth, d3], rfl⟩
    · exact ⟨.str (Tx z) :: ds, .cons (.str _) d1, by simp [PyData.canLayAll0, d2, as_ok hz], by simp [PyData.depthAll, PyData.depth, d3], rfl⟩
theorem eqD_nil {K : PySem.W.Frag} {H : Hp} {a b : Addr} {xs : List V} {Q : VK} (ha : SqL K H a xs) (hb : SqL K H b []) (hx : ∀ x ∈ xs, Fl x) (q : Q (.bl xs.isEmpty) H) : rEqD K (.ref a) (.ref b) H Q := by
  obtain ⟨ds, d1, d2, d3, d4⟩ := flat_data xs hx
  refine ⟨.list ds, .list [], .lst ha d1, .lst hb .nil, ?_, rfl, ?_⟩
  · simp [SeqAt.shaped, PyData.canLay0, PyData.depth, d2, d3]
  · have e : PyData.eqv (.list ds) (.list []) = xs.isEmpty := by
      rw [← d4]
      cases ds with
      | nil => first | rfl | simp [PyData.eqv]
      | cons d r => first | rfl | simp [PyData.eqv]
    rw [e]
    exact q
theorem neD_nil {K : PySem.W.Frag} {H : Hp} {a b : Addr} {xs : List V} {Q : VK} (ha : SqL K H a xs) (hb : SqL K H b []) (hx : ∀ x ∈ xs, Fl x) (q : Q (.bl (!xs.isEmpty)) H) : rNeD K (.ref a) (.ref b) H Q := by
  obtain ⟨d, e, h1, h2, h3, h4, h5⟩ := eqD_nil (Q := fun v _ => v = .bl xs.isEmpty) ha hb hx rfl
  refine ⟨d, e, h1, h2, h3, h4, ?_⟩
  rw [V.bl.inj h5]
  exact q
/-! ### slices, places of texts -/
theorem cutS_to (l : List Nat) (n : Nat) : cutS (Tx l) none (some (n : Int)) = Tx (l.take n) := by
  show (⟨(((Tx l).cps.toList.drop (HT.sIx (Tx l).length 0 none)).take (HT.sIx (Tx l).length (Tx l).length (some (n : Int)) - HT.sIx (Tx l).length 0 none)).toArray⟩ : Str) = _
  rw [HT.sIx_nat, HT.sIx_none, Tx_cps, Tx_len, Nat.sub_zero, List.drop_zero]
  congr 2
  rw [← List.take_take, List.take_length]
theorem cutS_from (l : List Nat) (n : Nat) : cutS (Tx l) (some (n : Int)) none = Tx (l.drop n) := by
  show (⟨(((Tx l).cps.toList.drop (HT.sIx (Tx l).length 0 (some (n : Int)))).take (HT.sIx (Tx l).length (Tx l).length none - HT.sIx (Tx l).length 0 (some (n : Int)))).toArray⟩ : Str) = _
  rw [HT.sIx_nat, HT.sIx_none, Tx_cps, Tx_len]
  congr 2
  by_cases h : n ≤ l.length
  · rw [Nat.min_eq_left h]
    exact List.take_of_length_le (by rw [List.length_drop]; omega)
  · rw [Nat.min_eq_right (by omega), Nat.sub_self, List.take_zero]
    exact (List.drop_eq_nil_of_le (by omega)).symm
theorem cutS_init (l : List Nat) : cutS (Tx l) none (some (-1)) = Tx l.dropLast := by
  show (⟨(((Tx l).cps.toList.drop (HT.sIx (Tx l).length 0 none)).take (HT.sIx (Tx l).length (Tx l).length (some (-1)) - HT.sIx (Tx l).length 0 none)).toArray⟩ : Str) = _
  have e : HT.sIx (Tx l).length (Tx l).length (some (-1)) = l.length - 1 := by
    show (if (-1 : Int) < 0 then ((-1 : Int) + ((Tx l).length : Int)).toNat else min (-1 : Int).toNat (Tx l).length) = _
    rw [if_pos (by decide : (-1 : Int) < 0), Tx_len]
    omega
  rw [e, HT.sIx_none, Tx_cps, Nat.sub_zero, List.drop_zero, List.dropLast_eq_take]
  rfl
theorem cutV_to (xs : List V) (n : Nat) : cutV xs none (some (n : Int)) = xs.take n := by
  show ((xs.drop (HT.sIx xs.length 0 none)).take (HT.sIx xs.length xs.length (some (n : Int)) - HT.sIx xs.length 0 none)) = _
  rw [HT.sIx_nat, HT.sIx_none, Nat.sub_zero, List.drop_zero, ← List.take_take, List.take_length]
theorem cutV_from (xs : List V) (n : Nat) : cutV xs (some (n : Int)) none = xs.drop n := by
  show ((xs.drop (HT.sIx xs.length 0 (some (n : Int)))).take (HT.sIx xs.length xs.length none - HT.sIx xs.length 0 (some (n : Int)))) = _
  rw [HT.sIx_nat, HT.sIx_none]
  by_cases h : n ≤ xs.length
  · rw [Nat.min_eq_left h]
    exact List.take_of_length_le (by rw [List.length_drop]; omega)
  · rw [Nat.min_eq_right (by omega), Nat.sub_self, List.take_zero]
    exact (List.drop_eq_nil_of_le (by omega)).symm
theorem at_tx {l : List Nat} {j : Nat} {c : Nat} (h : l[j]? = some c) : atI (Tx l).cps.toList (j : Int) = some c := by
  rw [Tx_cps]
  exact atI_nat h
theorem at_txI {l : List Nat} {i : Int} {j : Nat} {c : Nat} (e : i = (j : Int)) (h : l[j]? = some c) : atI (Tx l).cps.toList i = some c := by
  rw [e]
  exact at_tx h
theorem at_txL {l : List Nat} {c : Nat} (h : l[l.length - 1]? = some c) : atI (Tx l).cps.toList (-1) = some c := by
  rw [Tx_cps]
  cases l with
  | nil => cases h
  | cons a r =>
    have hl : ((a :: r).length : Int) = r.length + 1 := by simp
    unfold atI ixN
    rw [if_neg (by decide), if_pos (by omega)]
    show (a :: r)[((-1 : Int) + ((a :: r).length : Int)).toNat]? = some c
    have e2 : ((-1 : Int) + ((a :: r).length : Int)).toNat = (a :: r).length - 1 := by rw [hl, List.length_cons]; omega
    rw [e2]
    exact h
theorem at_lL {xs : List V} {v : V} (h : xs[xs.length - 1]? = some v) (h0 : xs ≠ []) : atI xs (-1) = some v := by
  cases xs with
  | nil => exact absurd rfl h0
  | cons a r =>
    have hl : ((a :: r).length : Int) = r.length + 1 := by simp
    unfold atI ixN
    rw [if_neg (by decide), if_pos (by omega)]
    show (a :: r)[((-1 : Int) + ((a :: r).length : Int)).toNat]? = some v
    have e2 : ((-1 : Int) + ((a :: r).length : Int)).toNat = (a :: r).length - 1 := by rw [hl, List.length_cons]; omega
    rw [e2]
    exact h
theorem ixN_n {n j : Nat} (hj : j < n) : ixN n (j : Int) = some j := by
  unfold ixN
  rw [if_pos (by omega), if_pos (by omega)]
  simp
/-! ### the eight brackets -/
def idx (c : Nat) : Nat := lBR.idxOf c
def opn (c : Nat) : Bool := decide (idx c % 2 = 0)
def oth (c : Nat) : Nat := lBR.getD (idx c + 1 - idx c % 2 * 2) 0
theorem idx_lt {c : Nat} (h : c ∈ lBR) : idx c < 8 := List.idxOf_lt_length_iff.mpr h
theorem idx_at {c : Nat} (h : c ∈ lBR) : lBR[idx c]? = some c := by
  have h2 : ∀ c ∈ lBR, lBR[idx c]? = some c := by decide
  exact h2 c h
theorem occ_br {c : Nat} (h : c ∈ lBR) : ∃ rest, Builtin.Str.occurrences (Tx lBR) (Tx [c]) 0 (Tx lBR).length 1 = idx c :: rest := by
  have h2 : ∀ c ∈ lBR, (Builtin.Str.occurrences (Tx lBR) (Tx [c]) 0 (Tx lBR).length 1).head? = some (idx c) := by decide +kernel
  have h3 := h2 c h
  cases e : Builtin.Str.occurrences (Tx lBR) (Tx [c]) 0 (Tx lBR).length 1 with
  | nil =>
    rw [e] at h3
    cases h3
  | cons i rest =>
    rw [e] at h3
    exact ⟨rest, by rw [Option.some.inj h3]⟩
theorem oth_at {c : Nat} (h : c ∈ lBR) : lBR[idx c + 1 - idx c % 2 * 2]? = some (oth c) := by
  have h2 : ∀ c ∈ lBR, lBR[idx c + 1 - idx c % 2 * 2]? = some (oth c) := by decide
  exact h2 c h
theorem oth_in {c : Nat} (h : c ∈ lBR) : oth c ∈ lBR := List.mem_of_getElem? (oth_at h)
theorem kind_le {c : Nat} (h : c ∈ lBR) : c < 128 := by
  have h2 : ∀ c ∈ lBR, c < 128 := by decide
  exact h2 c h
/-! ### comprehensions whose element is a plain value -/
def lcV (m : Nat) (ok : Nat → Bool) (val : Nat → V) : List V := List.map val (List.filter ok (List.range m))
theorem lcV_yes {m : Nat} {ok : Nat → Bool} {val : Nat → V} (g : ok m = true) : lcV (m + 1) ok val = lcV m ok val ++ [val m] := by
  unfold lcV
  rw [List.range_succ, List.filter_append, List.map_append]
  simp [g]
theorem lcV_no {m : Nat} {ok : Nat → Bool} {val : Nat → V} (g : ok m = false) : lcV (m + 1) ok val = lcV m ok val := by
  unfold lcV
  rw [List.range_succ, List.filter_append]
  simp [g]
theorem lcV_len (m : Nat) (ok : Nat → Bool) (val : Nat → V) : (lcV m ok val).length ≤ m := by
  unfold lcV
  rw [List.length_map]
  exact Nat.le_trans (List.length_filter_le ok _) (Nat.le_of_eq List.length_range)
theorem lcV_all {n : Nat} {v : Nat → V} : lcV n (fun _ => true) v = (List.range n).map v := by
  unfold lcV
  rw [List.filter_eq_self.mpr fun _ _ => rfl]
/-- a comprehension over anything that is walked, its element told by the turn; what stood stands -/
theorem lcF {J : It} {n : Nat} {G : Hp → Prop} {Y : Nat → Hp → V → Hp → Prop} (w : Walk J n G Y) {g : TG} {tt : TT} {te : TE} {vs : List Nat} {σ : L2.St} {H1 : Hp} {D : Addr} {Qd : Hp → Prop} (f : Nat → Bool) (v : Nat → V) (hn : H1 D = none) (hsz : n ≤ 50000)
    (hG : ∀ H2, Same H1 H2 → G H2)
    (hs : ∀ i x H2 H3, i < n → Same H1 H2 → Y i H2 x H3 → ∀ N : Option V → Hp → Prop, (∀ H', Same H2 H' → N (if f i = true then some (v i) else none) H') → g x (wipe σ vs) H3 fun σ2 H4 => wipe σ2 vs = wipe σ vs ∧ tt σ2 H4 fun b H5 =>
      if b = true then te σ2 H5 fun y H6 => N (some y) H6 else N none H5)
    (hd : ∀ H2, Same H1 H2 → H2 D = some (.lst (lcV n f v)) → Qd H2) :
    ∃ At : Nat → Nat → Hp → Prop, (∃ left, At 0 left (upd H1 D (.lst []))) ∧ ∀ i left G1, At i left G1 →
      (J.stop i G1 ∧ Qd G1) ∨ (J.go i G1 ∧ ∃ On : Hp → Prop, (∀ G2, On G2 → ∃ less, less < left ∧ At (i + 1) less G2) ∧ ∀ z G2, J.yld i G1 z G2 → g z (wipe σ vs) G2 fun τ G3 => wipe τ vs = wipe σ vs ∧ tt τ G3 fun yes G4 =>
        if yes = true then te τ G4 fun u G5 => ∃ had, G5 D = some (.lst had) ∧ had.length < sizeLine ∧ On (upd G5 D (.lst (had ++ [u]))) else On G4) := by
  refine lc_it w (fun i H => Same H1 H ∧ H D = some (.lst (lcV i f v))) ⟨same_upd hn, upd_same⟩ (fun i H _ p => hG H p.1) (fun i x H H' hi p y => ?_) (fun H p => hd H p.1 p.2)
  obtain ⟨p1, p2⟩ := p
  have hlen := lcV_len i f v
  refine hs i x H H' hi p1 y (fun o H4 => match o with
    | some y => ∃ acc, H4 D = some (.lst acc) ∧ acc.length < sizeLine ∧ (Same H1 (upd H4 D (.lst (acc ++ [y]))) ∧ (upd H4 D (.lst (acc ++ [y]))) D = some (.lst (lcV (i + 1) f v)))
    | none => Same H1 H4 ∧ H4 D = some (.lst (lcV (i + 1) f v))) (fun H4 s4 => ?_)
  cases hf : f i with
  | true =>
    rw [if_pos rfl]
    refine ⟨lcV i f v, s4 D _ p2, sl_lt (by omega), fun b o e => ?_, ?_⟩
    · rw [upd_ne (ne_of_none e hn)]
      exact s4 b o (p1 b o e)
    · rw [lcV_yes hf]
      exact upd_same
  | false =>
    rw [if_neg (by decide)]
    refine ⟨p1.trans s4, ?_⟩
    rw [lcV_no hf]
    exact s4 D _ p2
theorem lcV_filter {l : List Nat} {p : Nat → Bool} {v : Nat → V} : lcV l.length (fun i => p (l.getD i 0)) (fun i => v (l.getD i 0)) = (l.filter p).map v := by
  have h : l = (List.range l.length).map fun i => l.getD i 0 := by
    refine List.ext_getElem (by simp) fun i h1 h2 => ?_
    simp [List.getD_eq_getElem?_getD, h1]
  have e : ∀ m : List Nat, (m.filter fun i => p (l.getD i 0)).map (fun i => v (l.getD i 0)) = ((m.map fun i => l.getD i 0).filter p).map v := fun m => by
    rw [List.filter_map, List.map_map]
    rfl
  unfold lcV
  rw [e, ← h]
theorem set_set_w {σ : L2.St} {j : Nat} {a b : Option V} : (σ.set j a).set j b = σ.set j b := by simp
/-- a plain sign in the brackets' text: what its length is -/
theorem len_br : (Tx lBR).length = 8 := rfl
end BR
/-! the places of the defs, what the head speaks of -/
namespace BR
open PySem PySem.Spec PyProof.Rows L2
abbrev s_is_whole : Stmt := topS 20
abbrev s_need_kinds : Stmt := topS 21
abbrev s_brackets_of : Stmt := topS 22
abbrev s_is_row_by : Stmt := topS 23
abbrev s_need_line : Stmt := topS 24
abbrev s_is_opening : Stmt := topS 25
abbrev s_other_of : Stmt := topS 26
abbrev s_is_line : Stmt := topS 28
abbrev s_lets : Stmt := topS 31
abbrev s_ways_to_pair : Stmt := topS 32
abbrev s_counts_within : Stmt := topS 33
abbrev s_how_many : Stmt := topS 34
abbrev s_can_pair : Stmt := topS 36
abbrev s_right_ends : Stmt := topS 37
abbrev s_open_before : Stmt := topS 38
abbrev s_partners_of : Stmt := topS 27
abbrev s_is_right : Stmt := topS 29
abbrev s_depths : Stmt := topS 39
abbrev s_may_go_on : Stmt := topS 40
abbrev s_fewest_more : Stmt := topS 41
abbrev s_turned : Stmt := topS 51
abbrev s_is_filling : Stmt := topS 45
abbrev s_Begun_ways_within : Stmt := inClass (topS 43) 1
abbrev s_Begun_ways_from : Stmt := inClass (topS 43) 2
abbrev s_Begun_ways_with : Stmt := inClass (topS 43) 3
abbrev s_Begun_put : Stmt := inClass (topS 43) 4
abbrev s_Begun___init__ : Stmt := inClass (topS 43) 0
abbrev s_nth_filling : Stmt := topS 44
abbrev s_number_of : Stmt := topS 46
abbrev s_changes_at : Stmt := topS 48
abbrev s_fewest_changes : Stmt := topS 49
abbrev s_costs_by_place : Stmt := topS 53
abbrev s_sums_within : Stmt := topS 54
abbrev s_sum_of : Stmt := topS 55
abbrev s_costs_of : Stmt := topS 57
abbrev s_need_filling : Stmt := topS 58
abbrev s_pairs_of : Stmt := topS 59
abbrev s_around : Stmt := topS 60
abbrev s_partner_ways : Stmt := topS 61
abbrev s_counts_by_place : Stmt := topS 62
abbrev s_sure_places : Stmt := topS 63
abbrev s_is_name : Stmt := topS 72
abbrev s_is_number : Stmt := topS 73
abbrev s_shown : Stmt := topS 75
abbrev s_parted : Stmt := topS 74
abbrev s_Desk___init__ : Stmt := inClass (topS 76) 0
abbrev s_Desk_names : Stmt := inClass (topS 76) 1
abbrev s_Desk_row_by : Stmt := inClass (topS 76) 2
abbrev s_Desk_put_in : Stmt := inClass (topS 76) 3
abbrev s_Desk_sure_row : Stmt := inClass (topS 76) 5
abbrev s_Desk_counted : Stmt := inClass (topS 76) 6
abbrev s_Desk_deed : Stmt := inClass (topS 76) 4
abbrev s_Desk_asked : Stmt := inClass (topS 76) 7
abbrev s_Desk_say : Stmt := inClass (topS 76) 8
abbrev s__law_pool : Stmt := topS 78
abbrev s__law_draw : Stmt := topS 79
abbrev s__law_signs : Stmt := topS 81
abbrev s__law_shown : Stmt := topS 87
abbrev s__law_is_line : Stmt := topS 86
abbrev s__law_right_row : Stmt := topS 80
abbrev s__law_bent : Stmt := topS 82
abbrev s__law_line : Stmt := topS 83
abbrev s__law_names : Stmt := topS 85
abbrev s__law_sure : Stmt := topS 89
abbrev s__law_told_of : Stmt := topS 90
abbrev s__law_word : Stmt := topS 88
abbrev s__law_due : Stmt := topS 91
abbrev s__law_said : Stmt := topS 84
abbrev s__law_question : Stmt := topS 92
abbrev s__law_deed : Stmt := topS 93
abbrev s__law_asked : Stmt := topS 94
abbrev s__law_end : Stmt := topS 95
abbrev s_law : Stmt := topS 96
def Wt (s : String) : List Nat := (Str.ofString s).cps.toList
def lFORMS : List (List Nat × List Nat) := [(Wt "kinds", Wt "i"), (Wt "turn", Wt "aa"), (Wt "behind", Wt "aaa"), (Wt "drop", Wt "a"), (Wt "show", Wt "a"), (Wt "right", Wt "a"), (Wt "may", Wt "a"), (Wt "many", Wt "a"), (Wt "nth", Wt "ai"), (Wt "sure", Wt "a"), (Wt "fewest", Wt "a"), (Wt "more", Wt "a"), (Wt "names", Wt "")]
def exN (K : PySem.W.Frag) (e : Nat) : Addr := cA K (match e with
  | 0 => "NoRow"
  | 1 => "NoName"
  | 2 => "NoKinds"
  | 3 => "NoLine"
  | 4 => "NoNumber"
  | 5 => "NotRight"
  | _ => "NoFilling")
end BR
set_option Elab.async false
set_option linter.all false
set_option maxRecDepth 100000
set_option maxHeartbeats 0
/-! HR: the head: what is looked at, the run -/
namespace BR
open PySem PySem.Spec PyProof.Rows L2
def hd_is_whole : He.DefD := ⟨("is_whole", none), "is_whole", "is_whole", defArgs s_is_whole, defBody s_is_whole, defScope s_is_whole, [], []⟩
def hd_need_kinds : He.DefD := ⟨("need_kinds", none), "need_kinds", "need_kinds", defArgs s_need_kinds, defBody s_need_kinds, defScope s_need_kinds, [], []⟩
def hd_brackets_of : He.DefD := ⟨("brackets_of", none), "brackets_of", "brackets_of", defArgs s_brackets_of, defBody s_brackets_of, defScope s_brackets_of, [], []⟩
def hd_is_row_by : He.DefD := ⟨("is_row_by", none), "is_row_by", "is_row_by", defArgs s_is_row_by, defBody s_is_row_by, defScope s_is_row_by, [], []⟩
def hd_need_line : He.DefD := ⟨("need_line", none), "need_line", "need_line", defArgs s_need_line, defBody s_need_line, defScope s_need_line, [], []⟩
def hd_is_opening : He.DefD := ⟨("is_opening", none), "is_opening", "is_opening", defArgs s_is_opening, defBody s_is_opening, defScope s_is_opening, [], []⟩
def hd_other_of : He.DefD := ⟨("other_of", none), "other_of", "other_of", defArgs s_other_of, defBody s_other_of, defScope s_other_of, [], []⟩
def hd_partners_of : He.DefD := ⟨("partners_of", none), "partners_of", "partners_of", defArgs s_partners_of, defBody s_partners_of, defScope s_partners_of, [], []⟩
def hd_is_line : He.DefD := ⟨("is_line", none), "is_line", "is_line", defArgs s_is_line, defBody s_is_line, defScope s_is_line, [], []⟩
def hd_is_right : He.DefD := ⟨("is_right", none), "is_right", "is_right", defArgs s_is_right, defBody s_is_right, defScope s_is_right, [], []⟩
def hd_lets : He.DefD := ⟨("lets", none), "lets", "lets", defArgs s_lets, defBody s_lets, defScope s_lets, [], []⟩
def hd_ways_to_pair : He.DefD := ⟨("ways_to_pair", none), "ways_to_pair", "ways_to_pair", defArgs s_ways_to_pair, defBody s_ways_to_pair, defScope s_ways_to_pair, [], []⟩
def hd_counts_within : He.DefD := ⟨("counts_within", none), "counts_within", "counts_within", defArgs s_counts_within, defBody s_counts_within, defScope s_counts_within, [], []⟩
def hd_how_many : He.DefD := ⟨("how_many", none), "how_many", "how_many", defArgs s_how_many, defBody s_how_many, defScope s_how_many, [], []⟩
def hd_can_pair : He.DefD := ⟨("can_pair", none), "can_pair", "can_pair", defArgs s_can_pair, defBody s_can_pair, defScope s_can_pair, [], []⟩
def hd_right_ends : He.DefD := ⟨("right_ends", none), "right_ends", "right_ends", defArgs s_right_ends, defBody s_right_ends, defScope s_right_ends, [], []⟩
def hd_open_before : He.DefD := ⟨("open_before", none), "open_before", "open_before", defArgs s_open_before, defBody s_open_before, defScope s_open_before, [], []⟩
def hd_depths : He.DefD := ⟨("depths", none), "depths", "depths", defArgs s_depths, defBody s_depths, defScope s_depths, [], []⟩
def hd_may_go_on : He.DefD := ⟨("may_go_on", none), "may_go_on", "may_go_on", defArgs s_may_go_on, defBody s_may_go_on, defScope s_may_go_on, [], []⟩
def hd_fewest_more : He.DefD := ⟨("fewest_more", none), "fewest_more", "fewest_more", defArgs s_fewest_more, defBody s_fewest_more, defScope s_fewest_more, [], []⟩
def hd_Begun___init__ : He.DefD := ⟨("Begun", some "__init__"), "__init__", "Begun.__init__", defArgs s_Begun___init__, defBody s_Begun___init__, defScope s_Begun___init__, [], []⟩
def hd_Begun_ways_within : He.DefD := ⟨("Begun", some "ways_within"), "ways_within", "Begun.ways_within", defArgs s_Begun_ways_within, defBody s_Begun_ways_within, defScope s_Begun_ways_within, [], []⟩
def hd_Begun_ways_from : He.DefD := ⟨("Begun", some "ways_from"), "ways_from", "Begun.ways_from", defArgs s_Begun_ways_from, defBody s_Begun_ways_from, defScope s_Begun_ways_from, [], []⟩
def hd_Begun_ways_with : He.DefD := ⟨("Begun", some "ways_with"), "ways_with", "Begun.ways_with", defArgs s_Begun_ways_with, defBody s_Begun_ways_with, defScope s_Begun_ways_with, [], []⟩
def hd_Begun_put : He.DefD := ⟨("Begun", some "put"), "put", "Begun.put", defArgs s_Begun_put, defBody s_Begun_put, defScope s_Begun_put, [], []⟩
def hd_nth_filling : He.DefD := ⟨("nth_filling", none), "nth_filling", "nth_filling", defArgs s_nth_filling, defBody s_nth_filling, defScope s_nth_filling, [], []⟩
def hd_is_filling : He.DefD := ⟨("is_filling", none), "is_filling", "is_filling", defArgs s_is_filling, defBody s_is_filling, defScope s_is_filling, [], []⟩
def hd_number_of : He.DefD := ⟨("number_of", none), "number_of", "number_of", defArgs s_number_of, defBody s_number_of, defScope s_number_of, [], []⟩
def hd_changes_at : He.DefD := ⟨("changes_at", none), "changes_at", "changes_at", defArgs s_changes_at, defBody s_changes_at, defScope s_changes_at, [], []⟩
def hd_fewest_changes : He.DefD := ⟨("fewest_changes", none), "fewest_changes", "fewest_changes", defArgs s_fewest_changes, defBody s_fewest_changes, defScope s_fewest_changes, [], []⟩
def hd_turned : He.DefD := ⟨("turned", none), "turned", "turned", defArgs s_turned, defBody s_turned, defScope s_turned, [], []⟩
def hd_costs_by_place : He.DefD := ⟨("costs_by_place", none), "costs_by_place", "costs_by_place", defArgs s_costs_by_place, defBody s_costs_by_place, defScope s_costs_by_place, [], []⟩
def hd_sums_within : He.DefD := ⟨("sums_within", none), "sums_within", "sums_within", defArgs s_sums_within, defBody s_sums_within, defScope s_sums_within, [], []⟩
def hd_sum_of : He.DefD := ⟨("sum_of", none), "sum_of", "sum_of", defArgs s_sum_of, defBody s_sum_of, defScope s_sum_of, [], []⟩
def hd_costs_of : He.DefD := ⟨("costs_of", none), "costs_of", "costs_of", defArgs s_costs_of, defBody s_costs_of, defScope s_costs_of, [], []⟩
def hd_need_filling : He.DefD := ⟨("need_filling", none), "need_filling", "need_filling", defArgs s_need_filling, defBody s_need_filling, defScope s_need_filling, [], []⟩
def hd_pairs_of : He.DefD := ⟨("pairs_of", none), "pairs_of", "pairs_of", defArgs s_pairs_of, defBody s_pairs_of, defScope s_pairs_of, [], []⟩
def hd_around : He.DefD := ⟨("around", none), "around", "around", defArgs s_around, defBody s_around, defScope s_around, [], []⟩
def hd_partner_ways : He.DefD := ⟨("partner_ways", none), "partner_ways", "partner_ways", defArgs s_partner_ways, defBody s_partner_ways, defScope s_partner_ways, [], []⟩
def hd_counts_by_place : He.DefD := ⟨("counts_by_place", none), "counts_by_place", "counts_by_place", defArgs s_counts_by_place, defBody s_counts_by_place, defScope s_counts_by_place, [], []⟩
def hd_sure_places : He.DefD := ⟨("sure_places", none), "sure_places", "sure_places", defArgs s_sure_places, defBody s_sure_places, defScope s_sure_places, [], []⟩
def hd_is_name : He.DefD := ⟨("is_name", none), "is_name", "is_name", defArgs s_is_name, defBody s_is_name, defScope s_is_name, [], []⟩
def hd_is_number : He.DefD := ⟨("is_number", none), "is_number", "is_number", defArgs s_is_number, defBody s_is_number, defScope s_is_number, [], []⟩
def hd_parted : He.DefD := ⟨("parted", none), "parted", "parted", defArgs s_parted, defBody s_parted, defScope s_parted, [], []⟩
def hd_shown : He.DefD := ⟨("shown", none), "shown", "shown", defArgs s_shown, defBody s_shown, defScope s_shown, [], []⟩
def hd_Desk___init__ : He.DefD := ⟨("Desk", some "__init__"), "__init__", "Desk.__init__", defArgs s_Desk___init__, defBody s_Desk___init__, defScope s_Desk___init__, [], []⟩
def hd_Desk_names : He.DefD := ⟨("Desk", some "names"), "names", "Desk.names", defArgs s_Desk_names, defBody s_Desk_names, defScope s_Desk_names, [], []⟩
def hd_Desk_row_by : He.DefD := ⟨("Desk", some "row_by"), "row_by", "Desk.row_by", defArgs s_Desk_row_by, defBody s_Desk_row_by, defScope s_Desk_row_by, [], []⟩
def hd_Desk_put_in : He.DefD := ⟨("Desk", some "put_in"), "put_in", "Desk.put_in", defArgs s_Desk_put_in, defBody s_Desk_put_in, defScope s_Desk_put_in, [], []⟩
def hd_Desk_deed : He.DefD := ⟨("Desk", some "deed"), "deed", "Desk.deed", defArgs s_Desk_deed, defBody s_Desk_deed, defScope s_Desk_deed, [], []⟩
def hd_Desk_sure_row : He.DefD := ⟨("Desk", some "sure_row"), "sure_row", "Desk.sure_row", defArgs s_Desk_sure_row, defBody s_Desk_sure_row, defScope s_Desk_sure_row, [], []⟩
def hd_Desk_counted : He.DefD := ⟨("Desk", some "counted"), "counted", "Desk.counted", defArgs s_Desk_counted, defBody s_Desk_counted, defScope s_Desk_counted, [], []⟩
def hd_Desk_asked : He.DefD := ⟨("Desk", some "asked"), "asked", "Desk.asked", defArgs s_Desk_asked, defBody s_Desk_asked, defScope s_Desk_asked, [], []⟩
def hd_Desk_say : He.DefD := ⟨("Desk", some "say"), "say", "Desk.say", defArgs s_Desk_say, defBody s_Desk_say, defScope s_Desk_say, [], []⟩
def hd__law_pool : He.DefD := ⟨("_law_pool", none), "_law_pool", "_law_pool", defArgs s__law_pool, defBody s__law_pool, defScope s__law_pool, [], []⟩
def hd__law_draw : He.DefD := ⟨("_law_draw", none), "_law_draw", "_law_draw", defArgs s__law_draw, defBody s__law_draw, defScope s__law_draw, [], []⟩
def hd__law_right_row : He.DefD := ⟨("_law_right_row", none), "_law_right_row", "_law_right_row", defArgs s__law_right_row, defBody s__law_right_row, defScope s__law_right_row, [], []⟩
def hd__law_signs : He.DefD := ⟨("_law_signs", none), "_law_signs", "_law_signs", defArgs s__law_signs, defBody s__law_signs, defScope s__law_signs, [], []⟩
def hd__law_bent : He.DefD := ⟨("_law_bent", none), "_law_bent", "_law_bent", defArgs s__law_bent, defBody s__law_bent, defScope s__law_bent, [], []⟩
def hd__law_line : He.DefD := ⟨("_law_line", none), "_law_line", "_law_line", defArgs s__law_line, defBody s__law_line, defScope s__law_line, [], []⟩
def hd__law_said : He.DefD := ⟨("_law_said", none), "_law_said", "_law_said", defArgs s__law_said, defBody s__law_said, defScope s__law_said, [], []⟩
def hd__law_names : He.DefD := ⟨("_law_names", none), "_law_names", "_law_names", defArgs s__law_names, defBody s__law_names, defScope s__law_names, [], []⟩
def hd__law_is_line : He.DefD := ⟨("_law_is_line", none), "_law_is_line", "_law_is_line", defArgs s__law_is_line, defBody s__law_is_line, defScope s__law_is_line, [], []⟩
def hd__law_shown : He.DefD := ⟨("_law_shown", none), "_law_shown", "_law_shown", defArgs s__law_shown, defBody s__law_shown, defScope s__law_shown, [], []⟩
def hd__law_word : He.DefD := ⟨("_law_word", none), "_law_word", "_law_word", defArgs s__law_word, defBody s__law_word, defScope s__law_word, [], []⟩
def hd__law_sure : He.DefD := ⟨("_law_sure", none), "_law_sure", "_law_sure", defArgs s__law_sure, defBody s__law_sure, defScope s__law_sure, [], []⟩
def hd__law_told_of : He.DefD := ⟨("_law_told_of", none), "_law_told_of", "_law_told_of", defArgs s__law_told_of, defBody s__law_told_of, defScope s__law_told_of, [], []⟩
def hd__law_due : He.DefD := ⟨("_law_due", none), "_law_due", "_law_due", defArgs s__law_due, defBody s__law_due, defScope s__law_due, [], []⟩
def hd__law_question : He.DefD := ⟨("_law_question", none), "_law_question", "_law_question", defArgs s__law_question, defBody s__law_question, defScope s__law_question, [], []⟩
def hd__law_deed : He.DefD := ⟨("_law_deed", none), "_law_deed", "_law_deed", defArgs s__law_deed, defBody s__law_deed, defScope s__law_deed, [], []⟩
def hd__law_asked : He.DefD := ⟨("_law_asked", none), "_law_asked", "_law_asked", defArgs s__law_asked, defBody s__law_asked, defScope s__law_asked, [], []⟩
def hd__law_end : He.DefD := ⟨("_law_end", none), "_law_end", "_law_end", defArgs s__law_end, defBody s__law_end, defScope s__law_end, [], []⟩
def hd_law : He.DefD := ⟨("law", none), "law", "law", defArgs s_law, defBody s_law, defScope s_law, [], []⟩
def hFn0 : List He.DefD := [hd_is_whole, hd_need_kinds, hd_brackets_of, hd_is_row_by, hd_need_line, hd_is_opening, hd_other_of, hd_partners_of, hd_is_line, hd_is_right, hd_lets, hd_ways_to_pair, hd_counts_within, hd_how_many, hd_can_pair, hd_right_ends, hd_open_before, hd_depths, hd_may_go_on, hd_fewest_more, hd_Begun___init__, hd_Begun_ways_within, hd_Begun_ways_from, hd_Begun_ways_with, hd_Begun_put, hd_nth_filling, hd_is_filling, hd_number_of, hd_changes_at, hd_fewest_changes]
def hFn1 : List He.DefD := [hd_turned, hd_costs_by_place, hd_sums_within, hd_sum_of, hd_costs_of, hd_need_filling, hd_pairs_of, hd_around, hd_partner_ways, hd_counts_by_place, hd_sure_places, hd_is_name, hd_is_number, hd_parted, hd_shown, hd_Desk___init__, hd_Desk_names, hd_Desk_row_by, hd_Desk_put_in, hd_Desk_deed, hd_Desk_sure_row, hd_Desk_counted, hd_Desk_asked, hd_Desk_say, hd__law_pool, hd__law_draw, hd__law_right_row, hd__law_signs, hd__law_bent, hd__law_line]
def hFn2 : List He.DefD := [hd__law_said, hd__law_names, hd__law_is_line, hd__law_shown, hd__law_word, hd__law_sure, hd__law_told_of, hd__law_due, hd__law_question, hd__law_deed, hd__law_asked, hd__law_end, hd_law]
def hFn : List He.DefD := hFn0 ++ hFn1 ++ hFn2
def hFa0 : List He.Fa := [.glo "RowError", .glo "NoKinds", .glo "NoLine", .glo "NotRight", .glo "NoTree", .glo "NoNumber", .glo "NoWeights", .glo "NoPlace", .glo "NoFilling", .glo "TooMany", .glo "NoName", .glo "NoRow", .glo "is_whole", .glo "need_kinds", .glo "brackets_of", .glo "is_row_by", .glo "need_line", .glo "is_opening", .glo "other_of", .glo "partners_of", .glo "is_line", .glo "is_right", .glo "lets", .glo "ways_to_pair", .glo "counts_within", .glo "how_many", .glo "can_pair", .glo "right_ends", .glo "open_before", .glo "depths"]
def hFa1 : List He.Fa := [.glo "may_go_on", .glo "fewest_more", .glo "Begun", .glo "nth_filling", .glo "is_filling", .glo "number_of", .glo "changes_at", .glo "fewest_changes", .glo "turned", .glo "costs_by_place", .glo "sums_within", .glo "sum_of", .glo "costs_of", .glo "need_filling", .glo "pairs_of", .glo "around", .glo "partner_ways", .glo "counts_by_place", .glo "sure_places", .glo "is_name", .glo "is_number", .glo "parted", .glo "shown", .glo "Desk", .glo "_law_pool", .glo "_law_draw", .glo "_law_right_row", .glo "_law_signs", .glo "_law_bent", .glo "_law_line"]
def hFa2 : List He.Fa := [.glo "_law_said", .glo "_law_names", .glo "_law_is_line", .glo "_law_shown", .glo "_law_word", .glo "_law_sure", .glo "_law_told_of", .glo "_law_due", .glo "_law_question", .glo "_law_deed", .glo "_law_asked", .glo "_law_end", .glo "law", .glo "FORMS", .glo "WITH_ROW", .free "ValueError", .free "bool", .free "enumerate", .free "int", .free "isinstance", .free "len", .free "list", .free "max", .free "min", .free "range", .free "sorted", .free "str", .free "sum", .free "zip", .int "MOST_KINDS" 4]
def hFa3 : List He.Fa := [.int "MOST_SIGNS" 40, .int "MOST_LETTERS" 8, .int "MOST_FIGURES" 9, .int "FIRST_KINDS" 4, .str "BRACKETS" (Tx lBR), .str "OPENING" (Tx lOP), .str "CLOSING" (Tx lCL), .str "UNKNOWN" (Tx [63]), .str "LETTERS" (Tx lLET), .str "FIGURES" (Tx lFIG), .cls "Begun", .mkr "Begun", .meth "Begun" "__init__", .meth "Begun" "ways_within", .meth "Begun" "ways_from", .meth "Begun" "ways_with", .meth "Begun" "put", .cls "Desk", .mkr "Desk", .meth "Desk" "__init__", .meth "Desk" "names", .meth "Desk" "row_by", .meth "Desk" "put_in", .meth "Desk" "deed", .meth "Desk" "sure_row", .meth "Desk" "counted", .meth "Desk" "asked", .meth "Desk" "say", .noat "Begun" "line", .noat "Begun" "brackets"]
def hFa4 : List He.Fa := [.noat "Begun" "counts", .noat "Begun" "opened", .noat "Begun" "closed", .noat "Begun" "place", .noat "Desk" "kinds", .noat "Desk" "kept", .exc "NoFilling", .exc "NoKinds", .exc "NoLine", .exc "NoName", .exc "NoNumber", .exc "NoRow", .exc "NotRight"]
def hFa : List He.Fa := hFa0 ++ hFa1 ++ hFa2 ++ hFa3 ++ hFa4
def hLoose0 : List PySem.Str := ["RowError", "NoKinds", "NoLine", "NotRight", "NoTree", "NoNumber", "NoWeights", "NoPlace", "NoFilling", "TooMany", "NoName", "NoRow", "BRACKETS", "OPENING", "CLOSING", "UNKNOWN", "MOST_KINDS", "MOST_SIGNS", "is_whole", "need_kinds", "brackets_of", "is_row_by", "need_line", "is_opening", "other_of", "partners_of", "is_line", "is_right", "lets", "ways_to_pair"]
def hLoose1 : List PySem.Str := ["counts_within", "how_many", "can_pair", "right_ends", "open_before", "depths", "may_go_on", "fewest_more", "Begun", "nth_filling", "is_filling", "number_of", "changes_at", "fewest_changes", "turned", "costs_by_place", "sums_within", "sum_of", "costs_of", "need_filling", "pairs_of", "around", "partner_ways", "counts_by_place", "sure_places", "LETTERS", "FIGURES", "MOST_LETTERS", "MOST_FIGURES", "FIRST_KINDS"]
def hLoose2 : List PySem.Str := ["FORMS", "WITH_ROW", "is_name", "is_number", "parted", "shown", "Desk", "_law_pool", "_law_draw", "_law_right_row", "_law_signs", "_law_bent", "_law_line", "_law_said", "_law_names", "_law_is_line", "_law_shown", "_law_word", "_law_sure", "_law_told_of", "_law_due", "_law_question", "_law_deed", "_law_asked", "_law_end"]
def hLoose : List PySem.Str := hLoose0 ++ hLoose1 ++ hLoose2
def hTab : List He.Tab := [(fun K => He.ga K "FORMS", lFORMS.map fun p => Tx p.1)]
def excB (K : PySem.W.Frag) (D : Addr) : Bool := He.eqO (PySem.W.findIn K (.ref D) "__getattribute__") (some (some (.builtin "BaseException.__getattribute__"))) && (He.eqO (PySem.W.findIn K (.ref D) "__getattr__") (some none) && (decide (PySem.W.subIn K (.ref D) (.type "BaseException") = some true) &&
  (PySem.W.hasDictIn K D && (He.eqO (PySem.W.findIn K (.ref D) "__class__") (some (some (.builtin "object.__class__"))) && (He.eqO (PySem.W.specialIn K (.builtin "object.__class__") "__get__") (some (some (.builtin "getset_descriptor.__get__"))) && (decide (PySem.W.takesIn K (.builtin "object.__class__") = some true) && decide (PySem.W.mroIn K D (.type "object") = some true)))))))
def errB (K : PySem.W.Frag) : Bool := (List.range 7).all fun e => excB K (exN K e) && (((List.range 7).all fun g => decide (PySem.W.kitOne K (.ref (exN K e)) (.ref (exN K g)) = some (decide (e = g)))) &&
  (decide (PySem.W.kitAny K (.ref (exN K e)) [.ref (cA K "NoPlace"), .ref (cA K "NoTree"), .ref (cA K "NoWeights"), .ref (cA K "TooMany")] = some false) && (decide (PySem.W.kitOne K (.ref (exN K e)) (.type "ValueError") = some true) && decide (PySem.W.exmOne K (.ref (exN K e)) (.ref (cA K "RowError")) = some true))))
def hEx (K : PySem.W.Frag) : Bool := errB K && (He.valsB K (He.ga K "FORMS") (lFORMS.map fun p => (Tx p.1, He.Dv.str (Tx p.2))) && He.tupB K "WITH_ROW" [.str "row", .str "number"])
abbrev hR : PySem.W.OpenRow := PySem.W.OpenLaw.row PySem.Challenge.rw_bracketrows_k50_whole_a_long_day
/-- what is looked at: the names' objects, the functions' codes, the classes' names, their functions, the codes of these -/
def hRefs : Option Obj → List Addr
  | some ⟨_, _, .func fd, _⟩ => He.refV fd.code
  | some ⟨_, _, .cls cd, _⟩ => cd.ns :: cd.mro.flatMap He.refV
  | _ => []
def hVals : Option Obj → List Addr
  | some ⟨_, _, .dict es _, _⟩ => es.toList.flatMap fun e => He.refV e.val
  | _ => []
def hIns : Option Obj → List Addr
  | some ⟨_, _, .cls cd, _⟩ => [cd.ns]
  | _ => []
def hFrag {α : Type} (g : Addr → Option Obj) : List Addr → (PySem.W.Frag → α) → α
  | [], k => k []
  | a :: r, k => HandSHeadRun.frNat a fun a => match g a with
    | some o => hFrag g r fun K => k ((a, o) :: K)
    | none => hFrag g r k
theorem hFrag_eq {α : Type} (g : Addr → Option Obj) : ∀ (as : List Addr) (k : PySem.W.Frag → α), hFrag g as k = k (He.frG g as)
  | [], k => rfl
  | a :: r, k => by
    unfold hFrag
    rw [HandSHeadRun.frNat_eq]
    unfold He.frG
    rw [List.filterMap_cons]
    cases e : g a with
    | none => exact hFrag_eq g r k
    | some o => exact hFrag_eq g r fun K => k ((a, o) :: K)
def hAs (g : Addr → Option Obj) : List Addr := mainGlobals :: (hVals (g mainGlobals) ++ ((hVals (g mainGlobals)).flatMap (fun a => hRefs (g a)) ++ (((hVals (g mainGlobals)).flatMap fun a => hIns (g a)).flatMap (fun n => hVals (g n)) ++ (((hVals (g mainGlobals)).flatMap fun a => hIns (g a)).flatMap fun n => (hVals (g n)).flatMap fun m => hRefs (g m)))))
abbrev HAl : Type := He.AlT × Bool
def hObs (g : Addr → Option Obj) : HAl := hFrag g (hAs g) fun K => (He.obsT hFa hFn hTab K, hEx K)
def hHk : PySem.W.Hook where
  α := HAl
  obs := fun s => hObs s.heap.get?
  val := fun w => (He.valT hFn hTab w, true)
  says := fun w h => ∃ K : PySem.W.Frag, K.In h ∧ He.SaysT hFa hFn hTab w K ∧ hEx K = true
  of := fun _ _ e => by
    unfold hObs at e
    rw [hFrag_eq] at e
    exact ⟨_, He.frG_in, congrArg (fun z : HAl => z.1) e, congrArg (fun z : HAl => z.2) e⟩
  keeps := fun _ _ _ ⟨K, hK, c⟩ k => ⟨K, PySem.W.Frag.In.keeps hK k, c⟩
def hOb (s : PySem.W.SharedT) : HAl := hObs (HandSHeadRun.getT s)
theorem hOb_eq (s : PySem.W.SharedT) : hOb s = hHk.obs s.abs := by
  have e : HandSHeadRun.getT s = s.abs.heap.get? := funext (HandSHeadRun.getT_eq s)
  unfold hOb
  rw [e] <;> rfl
theorem hRunF (w : World) : HandSHeadRun.RunEq hR (PySem.W.view hR.prog [96]) hHk hOb 6000 hLoose (w.withFollow "special-get-raises" false) := by
  intro os
  kernel_rfl
theorem hRunT (w : World) : HandSHeadRun.RunEq hR (PySem.W.view hR.prog [96]) hHk hOb 6000 hLoose (w.withFollow "special-get-raises" true) := by
  intro os
  kernel_rfl
theorem hRun (w : World) : HandSHeadRun.RunEq hR (PySem.W.view hR.prog [96]) hHk hOb 6000 hLoose w := PySem.W.byRow2 "special-get-raises" (P := fun w => HandSHeadRun.RunEq hR (PySem.W.view hR.prog [96]) hHk hOb 6000 hLoose w) hRunF hRunT w
end BR
set_option Elab.async false
set_option linter.all false
set_option maxRecDepth 100000
set_option maxHeartbeats 4000000
/-! M1: how many right fillings a stretch has; plain, with no program in sight. -/
namespace BR
/-- sums over the ways to part a list into a piece, a sign, a piece -/
def Sp3 (f : List Nat → Nat → List Nat → Nat) : List Nat → Nat
  | [] => 0
  | c :: l => f [] c l + Sp3 (fun a d b => f (c :: a) d b) l
theorem Sp3_congr {f g : List Nat → Nat → List Nat → Nat} : ∀ (l : List Nat), (∀ a c b, l = a ++ c :: b → f a c b = g a c b) → Sp3 f l = Sp3 g l
  | [], _ => rfl
  | x :: l, h => by
    unfold Sp3
    rw [h [] x l rfl, Sp3_congr (f := fun a d b => f (x :: a) d b) (g := fun a d b => g (x :: a) d b) l fun a c b e => h (x :: a) c b (by rw [e]; rfl)]
theorem Sp3_add {f g : List Nat → Nat → List Nat → Nat} : ∀ (l : List Nat), Sp3 (fun a c b => f a c b + g a c b) l = Sp3 f l + Sp3 g l
  | [] => rfl
  | x :: l => by
    unfold Sp3
    rw [Sp3_add (f := fun a d b => f (x :: a) d b) (g := fun a d b => g (x :: a) d b) l]
    omega
theorem Sp3_zero : ∀ (l : List Nat), Sp3 (fun _ _ _ => 0) l = 0
  | [] => rfl
  | x :: l => by
    unfold Sp3
    rw [Sp3_zero l]
theorem Sp3_mul (m : Nat) {f : List Nat → Nat → List Nat → Nat} : ∀ (l : List Nat), Sp3 (fun a c b => m * f a c b) l = m * Sp3 f l
  | [] => rfl
  | x :: l => by
    unfold Sp3
    rw [Sp3_mul m (f := fun a d b => f (x :: a) d b) l, Nat.mul_add]
theorem Sp3_mulR (m : Nat) {f : List Nat → Nat → List Nat → Nat} (l : List Nat) : Sp3 (fun a c b => f a c b * m) l = Sp3 f l * m := by
  rw [Nat.mul_comm, ← Sp3_mul]
  exact Sp3_congr l fun a c b _ => Nat.mul_comm _ _
/-- a sum over kinds -/
def sumK (k : Nat) (f : Nat → Nat) : Nat := ((List.range k).map f).sum
theorem sumK_zero (f : Nat → Nat) : sumK 0 f = 0 := rfl
theorem sumK_succ (k : Nat) (f : Nat → Nat) : sumK (k + 1) f = sumK k f + f k := by
  simp [sumK, List.range_succ]
theorem sumK_congr {k : Nat} {f g : Nat → Nat} (h : ∀ i, i < k → f i = g i) : sumK k f = sumK k g := by
  induction k with
  | zero => rfl
  | succ k ih => rw [sumK_succ, sumK_succ, ih fun i hi => h i (by omega), h k (by omega)]
theorem sumK_mul (m : Nat) (k : Nat) (f : Nat → Nat) : sumK k (fun i => m * f i) = m * sumK k f := by
  induction k with
  | zero => rfl
  | succ k ih => rw [sumK_succ, sumK_succ, ih, Nat.mul_add]
theorem sumK_mulR (m : Nat) (k : Nat) (f : Nat → Nat) : sumK k (fun i => f i * m) = sumK k f * m := by
  rw [Nat.mul_comm, ← sumK_mul]
  exact sumK_congr fun i _ => Nat.mul_comm _ _
theorem sumK_le {k : Nat} {f : Nat → Nat} {b : Nat} (h : ∀ i, i < k → f i ≤ b) : sumK k f ≤ k * b := by
  induction k with
  | zero => simp [sumK_zero]
  | succ k ih =>
    rw [sumK_succ, Nat.succ_mul]
    exact Nat.add_le_add (ih fun i hi => h i (by omega)) (h k (by omega))
theorem sumK_z {k : Nat} {f : Nat → Nat} (h : ∀ i, i < k → f i = 0) : sumK k f = 0 := by
  have := sumK_le (b := 0) fun i hi => Nat.le_of_eq (h i hi)
  omega
theorem sumK_add {k : Nat} (f g : Nat → Nat) : sumK k (fun i => f i + g i) = sumK k f + sumK k g := by
  induction k with
  | zero => rfl
  | succ k ih =>
    rw [sumK_succ, sumK_succ, sumK_succ, ih]
    omega
theorem Sp3_sumK (k : Nat) (f : Nat → List Nat → Nat → List Nat → Nat) (l : List Nat) : Sp3 (fun a c b => sumK k fun i => f i a c b) l = sumK k fun i => Sp3 (f i) l := by
  induction k with
  | zero => exact Sp3_zero l
  | succ k ih =>
    rw [sumK_succ, ← ih, ← Sp3_add]
    exact Sp3_congr l fun a c b _ => sumK_succ _ _
theorem Sp3_assoc : ∀ (l : List Nat) (F : List Nat → Nat → List Nat → Nat → List Nat → Nat), Sp3 (fun a c b => Sp3 (fun a2 c2 b2 => F a c a2 c2 b2) b) l = Sp3 (fun A c2 b2 => Sp3 (fun a c a2 => F a c a2 c2 b2) A) l
  | [], _ => rfl
  | x :: l, F => by
    have ih := Sp3_assoc l fun a c a2 c2 b2 => F (x :: a) c a2 c2 b2
    show Sp3 (fun a2 c2 b2 => F [] x a2 c2 b2) l + Sp3 (fun a c b => Sp3 (fun a2 c2 b2 => F (x :: a) c a2 c2 b2) b) l =
      0 + Sp3 (fun A c2 b2 => F [] x A c2 b2 + Sp3 (fun a c a2 => F (x :: a) c a2 c2 b2) A) l
    rw [Sp3_add, ih, Nat.zero_add]
theorem Sp3_range : ∀ (l : List Nat) (f : List Nat → Nat → List Nat → Nat), Sp3 f l = sumK l.length fun m => f (l.take m) (l.getD m 0) (l.drop (m + 1))
  | [], _ => rfl
  | x :: l, f => by
    have ih := Sp3_range l fun a d b => f (x :: a) d b
    have h : ∀ (n : Nat) (g : Nat → Nat), sumK (n + 1) g = g 0 + sumK n fun m => g (m + 1) := by
      intro n
      induction n with
      | zero =>
        intro g
        rw [sumK_succ]
        simp [sumK_zero]
      | succ n ih =>
        intro g
        rw [sumK_succ, ih, sumK_succ]
        omega
    unfold Sp3
    rw [ih, List.length_cons, h]
    rfl
/-- the i-th bracket -/
def br (i : Nat) : Nat := lBR.getD i 0
def letB (c b : Nat) : Bool := decide (c = 63) || decide (c = b)
def lN (c b : Nat) : Nat := if letB c b = true then 1 else 0
theorem lN_le (c b : Nat) : lN c b ≤ 1 := by
  unfold lN
  split <;> omega
/-- in how many ways two signs pair -/
def ways (k c d : Nat) : Nat := sumK k fun κ => lN c (br (2 * κ)) * lN d (br (2 * κ + 1))
/-- in how many ways a row closes what is open (the top first) -/
def Rn (k : Nat) : List Nat → List Nat → Nat
  | s, [] => if s.isEmpty then 1 else 0
  | s, c :: l => (sumK k fun κ => lN c (br (2 * κ)) * Rn k (κ :: s) l) + match s with
    | [] => 0
    | κ :: s' => lN c (br (2 * κ + 1)) * Rn k s' l
def Wn (k : Nat) (l : List Nat) : Nat := Rn k [] l
theorem Wn_nil (k : Nat) : Wn k [] = 1 := rfl
theorem Rn_odd (k : Nat) : ∀ (l s : List Nat), (s.length + l.length) % 2 = 1 → Rn k s l = 0
  | [], s, h => by
    cases s with
    | nil => simp at h
    | cons a r => rfl
  | c :: l, s, h => by
    unfold Rn
    have h1 : (sumK k fun κ => lN c (br (2 * κ)) * Rn k (κ :: s) l) = 0 := sumK_z fun i _ => by
      rw [Rn_odd k l (i :: s) (by simp at h ⊢; omega), Nat.mul_zero]
    rw [h1, Nat.zero_add]
    cases s with
    | nil => rfl
    | cons a r =>
      show lN c (br (2 * a + 1)) * Rn k r l = 0
      rw [Rn_odd k l r (by simp at h ⊢; omega), Nat.mul_zero]
theorem Wn_odd (k : Nat) (l : List Nat) (h : l.length % 2 = 1) : Wn k l = 0 := Rn_odd k l [] (by simpa using h)
theorem Rn_le (k : Nat) (hk : k ≤ 4) : ∀ (l s : List Nat), Rn k s l ≤ 5 ^ l.length
  | [], s => by
    unfold Rn
    split <;> simp
  | c :: l, s => by
    unfold Rn
    have h1 : (sumK k fun κ => lN c (br (2 * κ)) * Rn k (κ :: s) l) ≤ k * 5 ^ l.length := sumK_le fun i _ =>
      Nat.le_trans (Nat.mul_le_mul (lN_le _ _) (Rn_le k hk l _)) (by omega)
    have h2 : (match s with | [] => 0 | κ :: s' => lN c (br (2 * κ + 1)) * Rn k s' l) ≤ 5 ^ l.length := by
      cases s with
      | nil => exact Nat.zero_le _
      | cons a r => exact Nat.le_trans (Nat.mul_le_mul (lN_le _ _) (Rn_le k hk l _)) (by omega)
    have h3 : k * 5 ^ l.length ≤ 4 * 5 ^ l.length := Nat.mul_le_mul_right _ hk
    rw [List.length_cons, Nat.pow_succ]
    omega
/-- by the first return -/
theorem Rn_first (k : Nat) : ∀ (n : Nat) (l : List Nat), l.length ≤ n → ∀ κ s, Rn k (κ :: s) l = Sp3 (fun a c b => Wn k a * lN c (br (2 * κ + 1)) * Rn k s b) l
  | n, [], _, κ, s => rfl
  | 0, c :: l, h, _, _ => by simp at h
  | n + 1, c :: l, h, κ, s => by
    have hl : l.length ≤ n := by simpa using h
    have e1 : ∀ κ', Rn k (κ' :: κ :: s) l = Sp3 (fun A c2 b2 => Sp3 (fun a c' a2 => Wn k a * lN c' (br (2 * κ' + 1)) * Wn k a2) A * lN c2 (br (2 * κ + 1)) * Rn k s b2) l := fun κ' => by
      rw [Rn_first k n l hl κ' (κ :: s)]
      have e2 : Sp3 (fun a c b => Wn k a * lN c (br (2 * κ' + 1)) * Rn k (κ :: s) b) l = Sp3 (fun a c b => Sp3 (fun a2 c2 b2 => Wn k a * lN c (br (2 * κ' + 1)) * Wn k a2 * lN c2 (br (2 * κ + 1)) * Rn k s b2) b) l := by
        refine Sp3_congr l fun a c b e => ?_
        have hb : b.length ≤ n := by
          have := congrArg List.length e
          simp at this
          omega
        rw [Rn_first k n b hb κ s, ← Sp3_mul]
        exact Sp3_congr b fun a2 c2 b2 _ => by simp only [Nat.mul_assoc]
      rw [e2, Sp3_assoc]
      refine Sp3_congr l fun A c2 b2 _ => ?_
      rw [Nat.mul_assoc, ← Sp3_mulR]
      exact Sp3_congr A fun a c a2 _ => by simp only [Nat.mul_assoc]
    have e3 : ∀ A, A.length ≤ n → Wn k (c :: A) = sumK k fun κ' => lN c (br (2 * κ')) * Sp3 (fun a c' a2 => Wn k a * lN c' (br (2 * κ' + 1)) * Wn k a2) A := fun A hA => by
      show (sumK k fun κ => lN c (br (2 * κ)) * Rn k [κ] A) + 0 = _
      rw [Nat.add_zero]
      refine sumK_congr fun κ' _ => ?_
      rw [Rn_first k n A hA κ' []]
      rfl
    show (sumK k fun κ' => lN c (br (2 * κ')) * Rn k (κ' :: κ :: s) l) + lN c (br (2 * κ + 1)) * Rn k s l = Wn k [] * lN c (br (2 * κ + 1)) * Rn k s l + Sp3 (fun a d b => Wn k (c :: a) * lN d (br (2 * κ + 1)) * Rn k s b) l
    rw [Wn_nil, Nat.one_mul, Nat.add_comm]
    congr 1
    have e4 : Sp3 (fun a d b => Wn k (c :: a) * lN d (br (2 * κ + 1)) * Rn k s b) l = Sp3 (fun A d b => sumK k fun κ' => lN c (br (2 * κ')) * (Sp3 (fun a c' a2 => Wn k a * lN c' (br (2 * κ' + 1)) * Wn k a2) A * lN d (br (2 * κ + 1)) * Rn k s b)) l := by
      refine Sp3_congr l fun a d b e => ?_
      have ha : a.length ≤ n := by
        have := congrArg List.length e
        simp at this
        omega
      rw [e3 a ha, ← sumK_mulR, ← sumK_mulR]
      exact sumK_congr fun κ' _ => by simp only [Nat.mul_assoc]
    rw [e4, Sp3_sumK]
    refine sumK_congr fun κ' _ => ?_
    rw [e1 κ', Sp3_mul]
theorem Wn_cons (k c : Nat) (l : List Nat) : Wn k (c :: l) = Sp3 (fun a d b => ways k c d * Wn k a * Wn k b) l := by
  show (sumK k fun κ => lN c (br (2 * κ)) * Rn k [κ] l) + 0 = _
  have e : Sp3 (fun a d b => ways k c d * Wn k a * Wn k b) l = Sp3 (fun a d b => sumK k fun κ => lN c (br (2 * κ)) * (Wn k a * lN d (br (2 * κ + 1)) * Wn k b)) l := by
    refine Sp3_congr l fun a d b _ => ?_
    unfold ways
    rw [← sumK_mulR, ← sumK_mulR]
    refine sumK_congr fun κ _ => ?_
    rw [Nat.mul_assoc, Nat.mul_assoc, Nat.mul_assoc]
    congr 1
    rw [← Nat.mul_assoc, ← Nat.mul_assoc, Nat.mul_comm (lN d _)]
  rw [e, Sp3_sumK, Nat.add_zero]
  refine sumK_congr fun κ _ => ?_
  rw [Rn_first k l.length l (Nat.le_refl _) κ [], Sp3_mul]
  rfl
/-- a stretch of a row -/
def sl (l : List Nat) (i j : Nat) : List Nat := (l.drop i).take (j - i)
theorem sl_len {l : List Nat} {i j : Nat} (h : j ≤ l.length) : (sl l i j).length = j - i := by
  simp [sl]
  omega
theorem sl_nil (l : List Nat) (i : Nat) : sl l i i = [] := by simp [sl]
theorem sl_cons {l : List Nat} {i j : Nat} (h : i < j) (h2 : j ≤ l.length) : sl l i j = l.getD i 0 :: sl l (i + 1) j := by
  unfold sl
  have e : l.drop i = l.getD i 0 :: l.drop (i + 1) := by
    rw [List.drop_eq_getElem_cons (by omega)]
    simp [List.getD_eq_getElem?_getD, show i < l.length by omega]
  rw [e, show j - i = (j - (i + 1)) + 1 by omega, List.take_succ_cons]
theorem sl_take {l : List Nat} {i j m : Nat} (h : m ≤ j - i) : (sl l i j).take m = sl l i (i + m) := by
  unfold sl
  rw [List.take_take, Nat.min_eq_left h]
  congr 1
  omega
theorem sl_drop {l : List Nat} {i j m : Nat} : (sl l i j).drop m = sl l (i + m) j := by
  unfold sl
  rw [List.drop_take, List.drop_drop]
  congr 1
  omega
theorem sl_at {l : List Nat} {i j m : Nat} (h : m < j - i) : (sl l i j).getD m 0 = l.getD (i + m) 0 := by
  unfold sl
  rw [List.getD_eq_getElem?_getD, List.getD_eq_getElem?_getD, List.getElem?_take_of_lt h, List.getElem?_drop]
theorem sl_all (l : List Nat) : sl l 0 l.length = l := by simp [sl]
theorem sl_end (l : List Nat) (i : Nat) : sl l i l.length = l.drop i := by
  unfold sl
  exact List.take_of_length_le (by simp)
/-- how many right fillings the stretch from i to j has -/
def Wd (k : Nat) (l : List Nat) (i j : Nat) : Nat := Wn k (sl l i j)
theorem Wd_self (k : Nat) (l : List Nat) (i : Nat) : Wd k l i i = 1 := by
  unfold Wd
  rw [sl_nil]
  rfl
theorem Wd_odd {k : Nat} {l : List Nat} {i j : Nat} (h : j ≤ l.length) (h2 : (j - i) % 2 = 1) : Wd k l i j = 0 := Wn_odd k _ (by rw [sl_len h]; exact h2)
theorem sumK_even {n : Nat} {g : Nat → Nat} (h : ∀ t, g (2 * t + 1) = 0) : sumK (2 * n + 1) g = sumK (n + 1) fun t => g (2 * t) := by
  induction n with
  | zero => rfl
  | succ n ih =>
    rw [show 2 * (n + 1) + 1 = 2 * n + 1 + 1 + 1 by omega, sumK_succ, sumK_succ, ih, sumK_succ (n + 1), h n]
    have e : 2 * n + 1 + 1 = 2 * (n + 1) := by omega
    rw [e]
    omega
/-- the term for a closing place -/
def tW (k : Nat) (l : List Nat) (i j m : Nat) : Nat := ways k (l.getD i 0) (l.getD m 0) * Wd k l (i + 1) m * Wd k l (m + 1) j
theorem Wd_step {k : Nat} {l : List Nat} {i u : Nat} (h : i + 2 * u + 2 ≤ l.length) : Wd k l i (i + 2 * u + 2) = sumK (u + 1) fun t => tW k l i (i + 2 * u + 2) (i + 1 + 2 * t) := by
  unfold Wd
  rw [sl_cons (by omega) h, Wn_cons, Sp3_range, sl_len h, show i + 2 * u + 2 - (i + 1) = 2 * u + 1 by omega]
  rw [sumK_congr (g := fun m => if m < 2 * u + 1 then tW k l i (i + 2 * u + 2) (i + 1 + m) else 0) fun m hm => ?_]
  · rw [sumK_even fun t => ?_]
    · refine sumK_congr fun t ht => ?_
      show (if 2 * t < 2 * u + 1 then _ else 0) = _
      rw [if_pos (by omega)]
    · show (if 2 * t + 1 < 2 * u + 1 then _ else 0) = 0
      split
      · unfold tW
        rw [Wd_odd (i := i + 1) (j := i + 1 + (2 * t + 1)) (by omega) (by omega), Nat.mul_zero, Nat.zero_mul]
      · rfl
  · rw [if_pos hm]
    unfold tW Wd
    rw [sl_take (by omega), sl_drop, sl_at (by omega)]
    congr 2
theorem Wd_le {k : Nat} (hk : k ≤ 4) {l : List Nat} (hl : l.length ≤ 40) (i j : Nat) : Wd k l i j < 2 ^ 100 := by
  have h := Rn_le k hk (sl l i j) []
  have h2 : (sl l i j).length ≤ 40 := by
    unfold sl
    simp
    omega
  have h3 : 5 ^ (sl l i j).length ≤ 5 ^ 40 := Nat.pow_le_pow_right (by decide) h2
  have h4 : (5 : Nat) ^ 40 < 2 ^ 100 := by decide +kernel
  unfold Wd Wn
  omega
theorem ways_le (k c d : Nat) : ways k c d ≤ k := by
  have := sumK_le (k := k) (f := fun κ => lN c (br (2 * κ)) * lN d (br (2 * κ + 1))) (b := 1) fun i _ => Nat.le_trans (Nat.mul_le_mul (lN_le _ _) (lN_le _ _)) (by omega)
  unfold ways
  omega
end BR
set_option Elab.async false
set_option linter.all false
set_option maxRecDepth 100000
set_option maxHeartbeats 4000000
namespace BR
open PySem PySem.Spec PyProof.Rows L2
/-! lines.py: what a row is -/
def kSet (k : Nat) : List Nat := lBR.take (2 * k)
def rowBy (k : Nat) (l : List Nat) : Bool := decide (l.length ≤ 40) && l.all fun c => decide (c ∈ kSet k ++ [63])
theorem as_take (k : Nat) : As (kSet k) := fun c hc => by
  have h : ∀ c ∈ lBR, c < 128 := by decide
  exact h c (List.mem_of_mem_take hc)
section
variable {P : Program} {w : World} {K : PySem.W.Frag} {mg : Str → Option Value} {base : Heap} {f : Addr} {fd : FuncData}
def spIsWhole : Sp := fun vs H Q _ => ∃ n : Int, vs = [.int n] ∧ Q (.bl true) H
theorem sc_is_whole : FnScope ["thing"] ["thing"] (defScope s_is_whole) := ⟨rfl, rfl, rfl, by decide +kernel, rfl, by decide +kernel, by decide +kernel⟩
theorem ok_is_whole (T : Txt K mg) (F : FunP K "is_whole" "is_whole" s_is_whole f fd) : FnOk P w K mg base CX0 1 f fd ["thing"] spIsWhole := by
  refine F.ok sc_is_whole (fun vs H Q E h => ?_) (fun cdv A outer s H vs Q E hr h => ?_)
  · obtain ⟨n, rfl, _⟩ := h
    rfl
  · obtain ⟨n, rfl, q⟩ := h
    refine ⟨_, PSs.nox (pss_one (ps_ret (pe_and (pe_callB call_isi (by rfl) T.b_isinstance (by decide +kernel) (pa_cons (pv 0) (pa_cons (pe_bltn (v := .ty "int") (by rfl) T.b_int (by decide +kernel) rfl) pa_nil))) (pe_one (pe_not (pe_callB call_isi (by rfl) T.b_isinstance (by decide +kernel) (pa_cons (pv 0) (pa_cons (pe_bltn (v := .ty "bool") (by rfl) T.b_bool (by decide +kernel) rfl) pa_nil)))))))) , ?_⟩
    refine ⟨_, rfl, _, _, _, _, _, rfl, .ty "int", .base (.int n), kit_ty (r := true) (by decide +kernel), _, rfl, ?_⟩
    refine iteT ⟨_, rfl, _, _, _, _, _, rfl, .ty "bool", .base (.int n), kit_ty (r := false) (by decide +kernel), _, rfl, ?_⟩
    exact q
def spNeedKinds : Sp := fun vs H Q _ => ∃ k : Nat, vs = [.int k] ∧ 1 ≤ k ∧ k ≤ 4 ∧ Q .non H
theorem sc_need_kinds : FnScope ["k"] ["k"] (defScope s_need_kinds) := ⟨rfl, rfl, rfl, by decide +kernel, rfl, by decide +kernel, by decide +kernel⟩
theorem ok_need_kinds (T : Txt K mg) (F : FunP K "need_kinds" "need_kinds" s_need_kinds f fd) (g_is_whole : Dk P w K mg base CX0 1 "is_whole" ["thing"] spIsWhole) : FnOk P w K mg base CX0 2 f fd ["k"] spNeedKinds := by
  refine F.ok sc_need_kinds (fun vs H Q E h => ?_) (fun cdv A outer s H vs Q E hr h => ?_)
  · obtain ⟨n, rfl, _⟩ := h
    rfl
  · obtain ⟨k, rfl, h1, h2, q⟩ := h
    refine ⟨_, PSs.nox (pss_one (ps_if (PW.pt (pw_or (pt_not (pt_val (g_is_whole.call hr pass0 (pa_cons (pv 0) pa_nil)))) (pw_or1 (pt_not (pt_chain op_le op_le pe_int (pv 0) (pe_gI T.c_MOST_KINDS))))))
        (pss_one (ps_raise rfl takes0 (T.x_NoKinds.mk')))
        pss_nil)) , ?_⟩
    refine ⟨_, rfl, _, rfl, _, rfl, ?_⟩
    refine iteF ⟨_, rfl, _, _, rfl, rfl, _, rfl, ?_⟩
    rw [decide_eq_true (show (1 : Int) ≤ (k : Int) by omega)]
    refine iteT ⟨_, _, rfl, rfl, _, rfl, ?_⟩
    rw [decide_eq_true (show (k : Int) ≤ 4 by omega)]
    exact q
def spBracketsOf : Sp := fun vs H Q _ => ∃ k : Nat, vs = [.int k] ∧ k ≤ 4 ∧ Q (.str (Tx (kSet k))) H
theorem sc_brackets_of : FnScope ["k"] ["k"] (defScope s_brackets_of) := ⟨rfl, rfl, rfl, by decide +kernel, rfl, by decide +kernel, by decide +kernel⟩
theorem ok_brackets_of (T : Txt K mg) (F : FunP K "brackets_of" "brackets_of" s_brackets_of f fd) : FnOk P w K mg base CX0 1 f fd ["k"] spBracketsOf := by
  refine F.ok sc_brackets_of (fun vs H Q E h => ?_) (fun cdv A outer s H vs Q E hr h => ?_)
  · obtain ⟨n, rfl, _⟩ := h
    rfl
  · obtain ⟨k, rfl, h1, q⟩ := h
    refine ⟨_, PSs.nox (pss_one (ps_ret (pe_slice sl_str (pe_gS T.c_BRACKETS) po_none (po_some (pe_op op_add (pv 0) (pv 0)))))) , ?_⟩
    refine ⟨_, rfl, _, rfl, _, _, rfl, rfl, _, rfl, _, rfl, by decide, ?_⟩
    have e := cutS_to lBR (2 * k)
    have e2 : ((k : Int) + (k : Int)) = ((2 * k : Nat) : Int) := by omega
    rw [e2, e]
    exact q
def spIsRowBy : Sp := fun vs H Q _ => ∃ (k : Nat) (l : List Nat), vs = [.int k, .str (Tx l)] ∧ k ≤ 4 ∧ As l ∧ l.length ≤ 10000 ∧ ∀ H', Same H H' → Q (.bl (rowBy k l)) H'
theorem sc_is_row_by : FnScope ["k", "thing", "sign"] ["k", "thing"] (defScope s_is_row_by) := ⟨rfl, rfl, rfl, by decide +kernel, rfl, by decide +kernel, by decide +kernel⟩
theorem all_filter (l : List Nat) (p : Nat → Bool) : ((l.filter fun c => !p c).map fun c => V.str (Tx [c])).isEmpty = l.all p := by
  induction l with
  | nil => rfl
  | cons c r ih =>
    cases h : p c with
    | true => simpa [h] using ih
    | false => simp [h]
theorem ok_is_row_by (T : Txt K mg) (F : FunP K "is_row_by" "is_row_by" s_is_row_by f fd) (g_brackets_of : Dk P w K mg base CX0 1 "brackets_of" ["k"] spBracketsOf) : FnOk P w K mg base CX0 2 f fd ["k", "thing"] spIsRowBy := by
  refine F.ok sc_is_row_by (fun vs H Q E h => ?_) (fun cdv A outer s H vs Q E hr h => ?_)
  · obtain ⟨k, l, rfl, _⟩ := h
    rfl
  · obtain ⟨k, l, rfl, h1, ha, hl, q⟩ := h
    refine ⟨_, PSs.nox (pss_cons (ps_if (PW.pt (pw_or (pt_not (pt_val (pe_callB call_isi (by rfl) T.b_isinstance (by decide +kernel) (pa_cons (pv 1) (pa_cons (pe_bltn (v := .ty "str") (by rfl) T.b_str (by decide +kernel) rfl) pa_nil))))) (pw_or1 (pt_cmpR op_gt (pe_callB call_len_str (by rfl) T.b_len (by decide +kernel) (pa_cons (pv 1) pa_nil)) (pe_gI T.c_MOST_SIGNS) (nomark _)))))
        (pss_one (ps_ret pe_bl))
        pss_nil)
       (pss_one (ps_ret (pe_cmpR (op_eqD hr.units) (pe_lc (own := [("sign", 2)]) (g := (gName 2)) (tt := _) (by rfl) sc_is_row_by.nd (pi_str (pv 1)) (blkOk_by (own := [("sign", 2)]) (N := ["k", "thing", "sign"]) (sc := defScope s_is_row_by) (by decide +kernel)) (fun _ _ _ _ _ => (pg_name (i := 2) sc_is_row_by.nd rfl (.inl rfl))) (fun _ _ _ _ _ => pts_one (pt_cmpR op_notIn_sign (pv 2) (pe_op op_add_str (g_brackets_of.call hr pass0 (pa_cons (pv 0) pa_nil)) (pe_gS T.c_UNKNOWN)) rfl)) (fun _ _ _ _ _ => (pv 2))) (pe_lst pa_nil) (nomark _))))) , ?_⟩
    refine ⟨_, rfl, _, _, _, _, _, rfl, .ty "str", .base (.str _), kit_ty (r := true) (by decide +kernel), _, rfl, ?_⟩
    refine iteF ⟨_, rfl, _, rfl, by rw [Tx_len]; exact sl_le (by omega), _, _, rfl, rfl, _, rfl, ?_⟩
    rw [Tx_len]
    refine iteB (fun c => ?_) (fun c => ?_)
    · have c1 : ¬ l.length ≤ 40 := fun z => by
        have := of_decide_eq_true c
        omega
      have e : rowBy k l = false := by simp [rowBy, c1]
      have := q H (Same.refl H)
      rw [e] at this
      exact this
    · have c1 : l.length ≤ 40 := Decidable.byContradiction fun z => by
        have := of_decide_eq_false c
        omega
      refine ⟨_, rfl, Tx l, rfl, fun D hD => ?_⟩
      refine lcF walk_str (fun i => !decide (l.getD i 0 ∈ kSet k ++ [63])) (fun i => .str (Tx [l.getD i 0])) hD (by simp [Tx]; omega) (fun _ _ => trivial) (fun i x H2 H3 hi s2 y N hN => ?_) (fun H2 s2 e2 => ?_)
      · obtain ⟨rfl, c, hc, rfl⟩ := y
        have hc' : l[i]? = some c := by simpa [Tx] using hc
        have hd : l.getD i 0 = c := by simp [List.getD_eq_getElem?_getD, hc']
        refine ⟨rfl, _, rfl, _, rfl, k, rfl, h1, _, _, rfl, rfl, by rw [Tx_len, Tx_len]; exact sl_le (by show (kSet k).length + 1 ≤ _; simp [kSet]; omega), c, _, rfl, rfl, _, rfl, ?_⟩
        have hN2 := hN _ (Same.refl _)
        rw [Tx_app, Tx_cps]
        rw [hd] at hN2
        refine iteB (fun z => ⟨_, rfl, ?_⟩) (fun z => ?_)
        · rw [z, if_pos rfl] at hN2
          exact hN2
        · rw [z, if_neg (by decide)] at hN2
          exact hN2
      · have hlen : (Tx l).cps.size = l.length := by simp [Tx]
        rw [hlen] at e2
        rw [lcV_filter (p := fun c => !decide (c ∈ kSet k ++ [63])) (v := fun c => .str (Tx [c]))] at e2
        refine ⟨Nat.zero_le _, fun p hp => eqD_nil (.inl (.inl ((same_upd hp) _ _ e2))) (.inl (.inl upd_same)) (fun x hx => ?_) ?_⟩
        · obtain ⟨c, hc, rfl⟩ := List.mem_map.mp hx
          refine .inr ⟨[c], rfl, fun d hd => ?_⟩
          rw [List.mem_singleton.mp hd]
          exact ha c ((List.mem_filter.mp hc).1)
        · rw [all_filter l fun c => decide (c ∈ kSet k ++ [63])]
          have e : rowBy k l = l.all fun c => decide (c ∈ kSet k ++ [63]) := by simp [rowBy, c1]
          rw [← e]
          exact q _ (s2.trans (same_upd hp))
def spNeedLine : Sp := fun vs H Q _ => ∃ (k : Nat) (l : List Nat), vs = [.int k, .str (Tx l)] ∧ 1 ≤ k ∧ k ≤ 4 ∧ As l ∧ rowBy k l = true ∧ ∀ H', Same H H' → Q .non H'
theorem rowBy_len {k : Nat} {l : List Nat} (h : rowBy k l = true) : l.length ≤ 40 := by
  unfold rowBy at h
  exact of_decide_eq_true (Bool.and_eq_true_iff.mp h).1
theorem sc_need_line : FnScope ["k", "row"] ["k", "row"] (defScope s_need_line) := ⟨rfl, rfl, rfl, by decide +kernel, rfl, by decide +kernel, by decide +kernel⟩
theorem ok_need_line (T : Txt K mg) (F : FunP K "need_line" "need_line" s_need_line f fd) (g_need_kinds : Dk P w K mg base CX0 2 "need_kinds" ["k"] spNeedKinds) (g_is_row_by : Dk P w K mg base CX0 2 "is_row_by" ["k", "thing"] spIsRowBy) : FnOk P w K mg base CX0 3 f fd ["k", "row"] spNeedLine := by
  refine F.ok sc_need_line (fun vs H Q E h => ?_) (fun cdv A outer s H vs Q E hr h => ?_)
  · obtain ⟨k, l, rfl, _⟩ := h
    rfl
  · obtain ⟨k, l, rfl, h1, h2, ha, hb, q⟩ := h
    refine ⟨_, PSs.nox (pss_cons (ps_expr (g_need_kinds.call hr pass0 (pa_cons (pv 0) pa_nil)))
       (pss_one (ps_if (pt_not (pt_val (g_is_row_by.call hr pass0 (pa_cons (pv 0) (pa_cons (pv 1) pa_nil)))))
        (pss_one (ps_raise rfl takes0 (T.x_NoLine.mk')))
        pss_nil))) , ?_⟩
    refine ⟨_, rfl, k, rfl, h1, h2, _, rfl, _, rfl, k, l, rfl, h2, ha, by have := rowBy_len hb; omega, fun H' s' => ⟨_, rfl, ?_⟩⟩
    rw [hb]
    exact iteF (q H' s')
def spIsOpening : Sp := fun vs H Q _ => ∃ c : Nat, vs = [.str (Tx [c])] ∧ c ∈ lBR ∧ Q (.bl (opn c)) H
theorem sc_is_opening : FnScope ["bracket"] ["bracket"] (defScope s_is_opening) := ⟨rfl, rfl, rfl, by decide +kernel, rfl, by decide +kernel, by decide +kernel⟩
theorem ok_is_opening (T : Txt K mg) (F : FunP K "is_opening" "is_opening" s_is_opening f fd) : FnOk P w K mg base CX0 1 f fd ["bracket"] spIsOpening := by
  refine F.ok sc_is_opening (fun vs H Q E h => ?_) (fun cdv A outer s H vs Q E hr h => ?_)
  · obtain ⟨c, rfl, _⟩ := h
    rfl
  · obtain ⟨c, rfl, h1, q⟩ := h
    refine ⟨_, PSs.nox (pss_one (ps_ret (pe_cmpR op_eq (pe_op op_mod (pe_m1 PySem.F.slot_str_index PySem.F.type_str_index mt_sindex (pe_gS T.c_BRACKETS) (pv 0)) pe_int) pe_int (nomark _)))) , ?_⟩
    obtain ⟨rest, ho⟩ := occ_br h1
    refine ⟨⟨_, rfl⟩, _, rfl, _, _, _, _, rfl, rfl, ho, _, _, rfl, rfl, by show (0 : Int) < 2; decide, rfl, ?_⟩
    have e : decide (V.int ((idx c : Int) % 2) = V.int 0) = opn c := by
      unfold opn
      refine decide_eq_decide.mpr ⟨fun z => ?_, fun z => ?_⟩
      · have := V.int.inj z
        omega
      · congr 1
        omega
    rw [e]
    exact q
def spOtherOf : Sp := fun vs H Q _ => ∃ c : Nat, vs = [.str (Tx [c])] ∧ c ∈ lBR ∧ Q (.str (Tx [oth c])) H
theorem sc_other_of : FnScope ["bracket", "at"] ["bracket"] (defScope s_other_of) := ⟨rfl, rfl, rfl, by decide +kernel, rfl, by decide +kernel, by decide +kernel⟩
theorem ok_other_of (T : Txt K mg) (F : FunP K "other_of" "other_of" s_other_of f fd) : FnOk P w K mg base CX0 1 f fd ["bracket"] spOtherOf := by
  refine F.ok sc_other_of (fun vs H Q E h => ?_) (fun cdv A outer s H vs Q E hr h => ?_)
  · obtain ⟨c, rfl, _⟩ := h
    rfl
  · obtain ⟨c, rfl, h1, q⟩ := h
    refine ⟨_, PSs.nox (pss_cons (ps_set (i := 1) sc_other_of.nd rfl (.inl rfl) (pe_m1 PySem.F.slot_str_index PySem.F.type_str_index mt_sindex (pe_gS T.c_BRACKETS) (pv 0)))
       (pss_one (ps_ret (pe_ix ix_str (pe_gS T.c_BRACKETS) (pe_op op_sub (pe_op op_add (pv 1) pe_int) (pe_op op_mul (pe_op op_mod (pv 1) pe_int) pe_int)) (fun _ _ => rfl))))) , ?_⟩
    obtain ⟨rest, ho⟩ := occ_br h1
    have hi := idx_lt h1
    refine ⟨⟨_, rfl⟩, _, rfl, _, _, _, _, rfl, rfl, ho, ?_⟩
    refine ⟨_, rfl, _, _, rfl, rfl, _, rfl, _, _, rfl, rfl, by show (0 : Int) < 2; decide, _, _, rfl, rfl, .inr ⟨by decide, by decide⟩, _, _, rfl, rfl, _, _, _, rfl, rfl, by decide, at_txI (j := idx c + 1 - idx c % 2 * 2) (by omega) (oth_at h1), ?_⟩
    exact q
def spIsLine : Sp := fun vs H Q _ => ∃ (k : Nat) (l : List Nat), vs = [.int k, .str (Tx l)] ∧ 1 ≤ k ∧ k ≤ 4 ∧ As l ∧ l.length ≤ 10000 ∧ ∀ H', Same H H' → Q (.bl (rowBy k l)) H'
theorem sc_is_line : FnScope ["k", "thing"] ["k", "thing"] (defScope s_is_line) := ⟨rfl, rfl, rfl, by decide +kernel, rfl, by decide +kernel, by decide +kernel⟩
theorem ok_is_line (T : Txt K mg) (F : FunP K "is_line" "is_line" s_is_line f fd) (g_need_kinds : Dk P w K mg base CX0 2 "need_kinds" ["k"] spNeedKinds) (g_is_row_by : Dk P w K mg base CX0 2 "is_row_by" ["k", "thing"] spIsRowBy) : FnOk P w K mg base CX0 3 f fd ["k", "thing"] spIsLine := by
  refine F.ok sc_is_line (fun vs H Q E h => ?_) (fun cdv A outer s H vs Q E hr h => ?_)
  · obtain ⟨k, l, rfl, _⟩ := h
    rfl
  · obtain ⟨k, l, rfl, h1, h2, ha, hl, q⟩ := h
    refine ⟨_, PSs.nox (pss_cons (ps_expr (g_need_kinds.call hr pass0 (pa_cons (pv 0) pa_nil)))
       (pss_one (ps_ret (g_is_row_by.call hr pass0 (pa_cons (pv 0) (pa_cons (pv 1) pa_nil)))))) , ?_⟩
    exact ⟨_, rfl, k, rfl, h1, h2, _, rfl, _, rfl, k, l, rfl, h2, ha, hl, q⟩
/-! fillings.py: lets, ways_to_pair -/
def spLets : Sp := fun vs H Q _ => ∃ c b : Nat, vs = [.str (Tx [c]), .str (Tx [b])] ∧ ∀ H', Same H H' → Q (.bl (letB c b)) H'
theorem sc_lets : FnScope ["sign", "bracket"] ["sign", "bracket"] (defScope s_lets) := ⟨rfl, rfl, rfl, by decide +kernel, rfl, by decide +kernel, by decide +kernel⟩
theorem ok_lets (T : Txt K mg) (F : FunP K "lets" "lets" s_lets f fd) : FnOk P w K mg base CX0 1 f fd ["sign", "bracket"] spLets := by
  refine F.ok sc_lets (fun vs H Q E h => ?_) (fun cdv A outer s H vs Q E hr h => ?_)
  · obtain ⟨c, b, rfl, _⟩ := h
    rfl
  · obtain ⟨c, b, rfl, q⟩ := h
    refine ⟨_, PSs.nox (pss_one (ps_ret (pe_cmpR op_in_seq (pv 0) (pe_tup (pa_cons (pe_gS T.c_UNKNOWN) (pa_cons (pv 1) pa_nil))) rfl))) , ?_⟩
    refine ⟨_, rfl, _, rfl, by show 2 ≤ sizeLine; decide, fun p hp => ⟨p, _, rfl, .inr (SqT.of upd_same), rfl, rfl, ?_⟩⟩
    have e : (if false = true then !inV (V.str (Tx [c])) [V.str (Tx [63]), V.str (Tx [b])] else inV (V.str (Tx [c])) [V.str (Tx [63]), V.str (Tx [b])]) = letB c b := by
      rw [if_neg (by decide)]
      have h1 : ∀ x y : Nat, eqV (V.str (Tx [x])) (V.str (Tx [y])) = decide (y = x) := fun x y => by
        show decide (Tx [x] = Tx [y]) = _
        refine decide_eq_decide.mpr ⟨fun z => ?_, fun z => by rw [z]⟩
        have := Tx_inj z
        injection this with h _
        exact h.symm
      show ((eqV (V.str (Tx [63])) (V.str (Tx [c]))) || ((eqV (V.str (Tx [b])) (V.str (Tx [c]))) || false)) = _
      rw [h1, h1, Bool.or_false]
      rfl
    rw [e]
    exact q _ (same_upd hp)
end
end BR
set_option Elab.async false
set_option linter.all false
set_option maxRecDepth 100000
set_option maxHeartbeats 4000000
/-! M2: dicts by pairs of places, ranges by two, heaps but for one object -/
namespace BR
open PySem PySem.Spec PyProof.Rows L2
/-- a number of places as a value -/
abbrev nI (n : Nat) : V := V.int (n : Int)
def ky (i j : Nat) : List L2.Key := [Sum.inl (i : Int), Sum.inl (j : Int)]
theorem ky_inj {i j a b : Nat} (h : ky i j = ky a b) : i = a ∧ j = b := by
  unfold ky at h
  injection h with h1 h2
  injection h2 with h3 _
  have e1 := Sum.inl.inj h1
  have e2 := Sum.inl.inj h3
  omega
/-- what is filled in: all rows from bb on, of the row ahead of it the places below e -/
def TIn (bb e i j : Nat) : Prop := (bb ≤ i ∨ (i + 1 = bb ∧ j < e)) ∧ i ≤ j ∧ (j - i) % 2 = 0
instance (bb e i j : Nat) : Decidable (TIn bb e i j) := by
  unfold TIn
  exact inferInstance
def Tab (g : Nat → Nat → V) (n bb e : Nat) (kvs : List (List L2.Key × V)) : Prop := ∀ i j, i ≤ n → j ≤ n → valV kvs (ky i j) = if TIn bb e i j then some (g i j) else none
section
variable {g : Nat → Nat → V} {n bb e b t : Nat} {kvs : List (List L2.Key × V)}
theorem tab_start : Tab g n (n + 1) 0 [] := fun i j hi hj => by
  rw [if_neg (fun h => by unfold TIn at h; omega)]
  rfl
theorem tab_diag (h : Tab g n (b + 1) 0 kvs) : Tab g n (b + 1) (b + 1) (putK kvs (ky b b) (g b b)) := fun i j hi hj => by
  rw [valV_put]
  by_cases e : ky i j = ky b b
  · obtain ⟨rfl, rfl⟩ := ky_inj e
    rw [if_pos rfl, if_pos ⟨.inr ⟨rfl, by omega⟩, by omega, by omega⟩]
  · rw [if_neg e, h i j hi hj]
    have ne : ¬ (i = b ∧ j = b) := fun z => e (by rw [z.1, z.2])
    have : TIn (b + 1) 0 i j ↔ TIn (b + 1) (b + 1) i j := by unfold TIn; omega
    simp only [this]
theorem tab_put (h : Tab g n (b + 1) (b + 1 + 2 * t) kvs) : Tab g n (b + 1) (b + 1 + 2 * (t + 1)) (putK kvs (ky b (b + 2 + 2 * t)) (g b (b + 2 + 2 * t))) := fun i j hi hj => by
  rw [valV_put]
  by_cases e : ky i j = ky b (b + 2 + 2 * t)
  · obtain ⟨rfl, rfl⟩ := ky_inj e
    rw [if_pos rfl, if_pos ⟨.inr ⟨rfl, by omega⟩, by omega, by omega⟩]
  · rw [if_neg e, h i j hi hj]
    have ne : ¬ (i = b ∧ j = b + 2 + 2 * t) := fun z => e (by rw [z.1, z.2])
    have : TIn (b + 1) (b + 1 + 2 * t) i j ↔ TIn (b + 1) (b + 1 + 2 * (t + 1)) i j := by unfold TIn; omega
    simp only [this]
theorem tab_next (h : Tab g n (b + 1) (b + 1 + 2 * ((n - b) / 2)) kvs) : Tab g n b 0 kvs := fun i j hi hj => by
  rw [h i j hi hj]
  have : TIn (b + 1) (b + 1 + 2 * ((n - b) / 2)) i j ↔ TIn b 0 i j := by unfold TIn; omega
  simp only [this]
theorem tab_get (h : Tab g n bb e kvs) {i j : Nat} (hi : i ≤ n) (hj : j ≤ n) (ht : TIn bb e i j) : valV kvs (ky i j) = some (g i j) := by
  rw [h i j hi hj, if_pos ht]
end
theorem putK_ln {κ : Type} [DecidableEq κ] (c : List (κ × V)) (k : κ) (x : V) : (putK c k x).length ≤ c.length + 1 := by
  unfold putK
  split
  · rw [List.length_map]
    omega
  · rw [List.length_append]
    exact Nat.le_refl _
theorem dget_t {H : Hp} {a b : Addr} {kvs : List (List L2.Key × V)} {k : List L2.Key} {v : V} (e : H a = some (.dT kvs)) (eb : H b = some (.tup (k.map kV))) (h : valV kvs k = some v) : DGet H a (.ref b) (some v) := h ▸ DGet.t e eb
theorem rs_two (a b : Int) : Builtin.Range.rangeSize a b 2 = if a < b then (b - a - 1) / 2 + 1 else 0 := by
  unfold Builtin.Range.rangeSize
  rw [if_pos (by decide)]
/-- ranges by two -/
theorem rg_two {a b : Nat} (ha : a < 1000) (hb : b < 1000) : RgC (a : Int) (b : Int) 2 ((b - a + 1) / 2) := by
  refine ⟨by decide, by decide, ?_, ?_⟩
  · have f : ∀ x : Int, -1000000 ≤ x → x ≤ 1000000 → Builtin.Range.rangeFitsLong x = true := fun x h1 h2 => by
      unfold Builtin.Range.rangeFitsLong
      exact Bool.and_eq_true_iff.mpr ⟨decide_eq_true (by omega), decide_eq_true (by omega)⟩
    unfold Builtin.Range.small
    rw [rs_two, if_pos (by decide : (2 : Int) > 0), f a (by omega) (by omega), f b (by omega) (by omega), f 2 (by decide) (by decide), f _ (by split <;> omega) (by split <;> omega), f _ (by omega) (by omega)]
    exact Bool.or_true _
  · rw [rs_two]
    split
    · omega
    · omega
theorem rg_dn {a : Nat} (ha : a < 1000) : RgC (a : Int) (-1) (-1) (a + 1) := by
  have h := RgC.neg (i := (a : Int)) (j := -1) (by omega) (by omega) (by omega) (by omega)
  have e : ((a : Int) - -1).toNat = a + 1 := by omega
  rw [e] at h
  exact h
/-- what stood stands, but for the object at d -/
def SameX (d : Addr) (H H' : Hp) : Prop := ∀ b o, b ≠ d → H b = some o → H' b = some o
theorem SameX.refl (d : Addr) (H : Hp) : SameX d H H := fun _ _ _ h => h
theorem SameX.trans {d : Addr} {H H1 H2 : Hp} (a : SameX d H H1) (b : SameX d H1 H2) : SameX d H H2 := fun c o n h => b c o n (a c o n h)
theorem sameX {d : Addr} {H H1 : Hp} (a : Same H H1) : SameX d H H1 := fun c o _ h => a c o h
theorem SameX.up {d : Addr} {H H1 : Hp} {o : HO} (a : SameX d H H1) : SameX d H (upd H1 d o) := fun c u n h => by
  rw [upd_ne n]
  exact a c u n h
theorem SameX.new {d : Addr} {H H1 : Hp} (a : SameX d H H1) (h : H d = none) : Same H H1 := fun c u e => a c u (ne_of_none e h) e
theorem same_x {d : Addr} {H : Hp} {o : HO} : SameX d H (upd H d o) := SameX.up (SameX.refl d H)
end BR
set_option Elab.async false
set_option linter.all false
set_option maxRecDepth 100000
set_option maxHeartbeats 4000000
/-! D2: fillings.py: in how many ways two signs pair, the counts of all stretches -/
namespace BR
open PySem PySem.Spec PyProof.Rows L2
theorem br_at {i : Nat} (h : i < 8) : lBR[i]? = some (br i) := by
  have h2 : ∀ i, i < 8 → lBR[i]? = some (br i) := by decide
  exact h2 i h
theorem lN_and (c b d e : Nat) : (if (letB c b && letB d e) = true then (1 : Nat) else 0) = lN c b * lN d e := by
  unfold lN
  cases letB c b <;> cases letB d e <;> rfl
section
variable {P : Program} {w : World} {K : PySem.W.Frag} {mg : Str → Option Value} {base : Heap} {f : Addr} {fd : FuncData}
def spWays : Sp := fun vs H Q _ => ∃ k c d : Nat, vs = [.int k, .str (Tx [c]), .str (Tx [d])] ∧ k ≤ 4 ∧ ∀ H', Same H H' → Q (.int (ways k c d)) H'
theorem sc_ways_to_pair : FnScope ["k", "one", "other", "found", "kind"] ["k", "one", "other"] (defScope s_ways_to_pair) := ⟨rfl, rfl, rfl, by decide +kernel, rfl, by decide +kernel, by decide +kernel⟩
theorem ok_ways_to_pair (T : Txt K mg) (F : FunP K "ways_to_pair" "ways_to_pair" s_ways_to_pair f fd) (g_lets : Dk P w K mg base CX0 1 "lets" ["sign", "bracket"] spLets) : FnOk P w K mg base CX0 2 f fd ["k", "one", "other"] spWays := by
  refine F.ok sc_ways_to_pair (fun vs H Q E h => ?_) (fun cdv A outer s H vs Q E hr h => ?_)
  · obtain ⟨k, c, d, rfl, _⟩ := h
    rfl
  · obtain ⟨k, c, d, rfl, h1, q⟩ := h
    refine ⟨_, PSs.nox (pss_cons (ps_set (i := 3) sc_ways_to_pair.nd rfl (.inl rfl) pe_int)
       (pss_cons (ps_for PassesOwn.never rfl (pi_range1 rfl T.b_range (pa_cons (pv 0) pa_nil)) (pg_name (i := 4) sc_ways_to_pair.nd rfl (.inl rfl))
        (pss_one (ps_aug (i := 3) sc_ways_to_pair.nd rfl (.inl rfl) (pe_callTy call_int1 (by rfl) T.b_int (by decide +kernel) (pa_cons (pe_and (g_lets.call hr pass0 (pa_cons (pv 1) (pa_cons (pe_ix ix_str (pe_gS T.c_BRACKETS) (pe_op op_mul pe_int (pv 4)) (fun _ _ => rfl)) pa_nil))) (pe_one (g_lets.call hr pass0 (pa_cons (pv 2) (pa_cons (pe_ix ix_str (pe_gS T.c_BRACKETS) (pe_op op_add (pe_op op_mul pe_int (pv 4)) pe_int) (fun _ _ => rfl)) pa_nil))))) pa_nil)) ip_add)))
       (pss_one (ps_ret (pv 3))))) , ?_⟩
    refine ⟨_, rfl, (k : Int), rfl, by omega, by omega, ?_⟩
    refine for_it walk_range (fun i σ H' => ∃ y, σ = [some (.int k), some (.str (Tx [c])), some (.str (Tx [d])), some (.int (sumK i fun κ => lN c (br (2 * κ)) * lN d (br (2 * κ + 1)) : Nat)), y] ∧ Same H H')
      ⟨none, rfl, Same.refl H⟩ (fun _ _ _ _ _ => trivial) (fun i x σ H2 H3 hi hP hY => ?_) (fun σ H2 hP => ?_)
    · obtain ⟨y, rfl, s2⟩ := hP
      obtain ⟨rfl, rfl⟩ := hY
      have hi' : i < k := by omega
      refine ⟨_, rfl, ⟨_, rfl, _, rfl, _, _, rfl, rfl, .inl ⟨by decide, by decide⟩, _, _, _, rfl, rfl, by decide, at_txI (j := 2 * i) (by omega) (br_at (by omega)), c, br (2 * i), rfl, fun H4 s4 => ⟨_, rfl, ?_⟩⟩⟩
      have fin : ∀ (b : Bool) (H5 : Hp), Same H H5 → b = (letB c (br (2 * i)) && letB d (br (2 * i + 1))) → ∃ y', ([some (.int k), some (.str (Tx [c])), some (.str (Tx [d])), some (.int ((sumK i fun κ => lN c (br (2 * κ)) * lN d (br (2 * κ + 1)) : Nat) + (if b = true then (1 : Int) else 0))), some (V.int (0 + (i : Int)))] : L2.St) =
          [some (.int k), some (.str (Tx [c])), some (.str (Tx [d])), some (.int (sumK (i + 1) fun κ => lN c (br (2 * κ)) * lN d (br (2 * κ + 1)) : Nat)), y'] ∧ Same H H5 := fun b H5 s5 e => by
        refine ⟨some (V.int (0 + (i : Int))), ?_, s5⟩
        rw [sumK_succ, ← lN_and, ← e]
        have e2 : (if b = true then (1 : Int) else 0) = ((if b = true then (1 : Nat) else 0 : Nat) : Int) := by cases b <;> rfl
        rw [e2, Int.natCast_add]
      refine iteB (fun z => ?_) (fun z => ?_)
      · refine ⟨_, rfl, _, rfl, _, _, rfl, rfl, .inl ⟨by decide, by decide⟩, _, _, rfl, rfl, _, _, _, rfl, rfl, by decide, at_txI (j := 2 * i + 1) (by omega) (br_at (by omega)), d, br (2 * i + 1), rfl, fun H5 s5 => .inr ⟨_, rfl, _, _, rfl, rfl, ?_⟩⟩
        exact fin _ H5 ((s2.trans s4).trans s5) (by rw [z, Bool.true_and])
      · refine .inr ⟨_, rfl, _, _, rfl, rfl, ?_⟩
        exact fin _ H4 (s2.trans s4) (by rw [z, Bool.false_and])
    · obtain ⟨y, rfl, s2⟩ := hP
      refine ⟨_, rfl, ?_⟩
      have e : (k : Int).toNat = k := by omega
      rw [e]
      exact q H2 s2
end
end BR
set_option Elab.async false
set_option linter.all false
set_option maxRecDepth 100000
set_option maxHeartbeats 4000000
/-! D3: fillings.py: the counts of all stretches, how many -/
namespace BR
open PySem PySem.Spec PyProof.Rows L2
/-- the counts of all stretches -/
def CTab (k : Nat) (l : List Nat) (kvs : List (List L2.Key × V)) : Prop := Tab (fun i j => (nI (Wd k l i j))) l.length 0 0 kvs
def pt (k : Nat) (l : List Nat) (b e m : Nat) : Nat := if b + 1 + 2 * m < e ∧ 0 < ways k (l.getD b 0) (l.getD (b + 1 + 2 * m) 0) then tW k l b e (b + 1 + 2 * m) else 0
theorem sumK_ext {n m : Nat} {f : Nat → Nat} (h : n ≤ m) (z : ∀ i, n ≤ i → i < m → f i = 0) : sumK m f = sumK n f := by
  induction m with
  | zero =>
    have : n = 0 := by omega
    rw [this]
  | succ m ih =>
    by_cases e : n = m + 1
    · rw [e]
    · rw [sumK_succ, z m (by omega) (by omega), Nat.add_zero]
      exact ih (by omega) fun i h1 h2 => z i h1 (by omega)
theorem pt_sum {k : Nat} {l : List Nat} {b t M : Nat} (h : b + 2 * t + 2 ≤ l.length) (hM : t + 1 ≤ M) : sumK M (pt k l b (b + 2 + 2 * t)) = Wd k l b (b + 2 + 2 * t) := by
  have e : b + 2 + 2 * t = b + 2 * t + 2 := by omega
  rw [e, Wd_step h, sumK_ext hM fun i h1 _ => ?_]
  · refine sumK_congr fun i hi => ?_
    unfold pt
    by_cases z : 0 < ways k (l.getD b 0) (l.getD (b + 1 + 2 * i) 0)
    · rw [if_pos ⟨by omega, z⟩]
    · rw [if_neg (fun q => z q.2)]
      unfold tW
      rw [show ways k (l.getD b 0) (l.getD (b + 1 + 2 * i) 0) = 0 by omega, Nat.zero_mul, Nat.zero_mul]
  · unfold pt
    rw [if_neg (fun q => by omega)]
theorem getD_at {l : List Nat} {i : Nat} (h : i < l.length) : l[i]? = some (l.getD i 0) := by
  simp [List.getD_eq_getElem?_getD, h]
theorem nat_lt_pow {a b : Nat} (h : a < 2 ^ b) : ((a : Int)).natAbs < 2 ^ b := by simpa using h
section
variable {P : Program} {w : World} {K : PySem.W.Frag} {mg : Str → Option Value} {base : Heap} {f : Addr} {fd : FuncData}
def spCounts : Sp := fun vs H Q _ => ∃ (k : Nat) (l : List Nat), vs = [.int k, .str (Tx l)] ∧ k ≤ 4 ∧ l.length ≤ 40 ∧ ∀ H' d kvs, Same H H' → H d = none → H' d = some (.dT kvs) → CTab k l kvs → Q (.ref d) H'
theorem sc_counts_within : FnScope ["k", "row", "many", "counts", "begin", "close", "pairs", "end", "found", "ways"] ["k", "row"] (defScope s_counts_within) := ⟨rfl, rfl, rfl, by decide +kernel, rfl, by decide +kernel, by decide +kernel⟩
theorem ok_counts_within (T : Txt K mg) (F : FunP K "counts_within" "counts_within" s_counts_within f fd) (g_ways_to_pair : Dk P w K mg base CX0 2 "ways_to_pair" ["k", "one", "other"] spWays) : FnOk P w K mg base CX0 3 f fd ["k", "row"] spCounts := by
  refine F.ok sc_counts_within (fun vs H Q E h => ?_) (fun cdv A outer s H vs Q E hr h => ?_)
  · obtain ⟨k, l, rfl, _⟩ := h
    rfl
  · obtain ⟨k, l, rfl, hk, hl, q⟩ := h
    have hu := hu_of hr
    refine ⟨_, PSs.nox (pss_cons (ps_set (i := 2) sc_counts_within.nd rfl (.inl rfl) (pe_callB call_len_str (by rfl) T.b_len (by decide +kernel) (pa_cons (pv 1) pa_nil)))
       (pss_cons (ps_set (i := 3) sc_counts_within.nd rfl (.inl rfl) pe_dnewT)
       (pss_cons (ps_for PassesOwn.never rfl (pi_range3 rfl T.b_range (pa_cons (pv 2) (pa_cons (pe_un un_neg pe_int) (pa_cons (pe_un un_neg pe_int) pa_nil)))) (pg_name (i := 4) sc_counts_within.nd rfl (.inr rfl))
        (pss_cons (ps_dput hu (pv 3) (pe_tup (pa_cons (pv 4) (pa_cons (pv 4) pa_nil))) pe_int rfl)
       (pss_cons (ps_setLc (i := 6) (own := [("close", 5)]) (g := (gName 5)) (tt := _) (by rfl) sc_counts_within.nd rfl rfl (sw_true rfl rfl rfl (by decide +kernel)) (pi_range3 rfl T.b_range (pa_cons (pe_op op_add (pv 4) pe_int) (pa_cons (pv 2) (pa_cons pe_int pa_nil)))) (blkOk_by (own := [("close", 5)]) (N := ["k", "row", "many", "counts", "begin", "close", "pairs", "end", "found", "ways"]) (sc := defScope s_counts_within) (by decide +kernel)) (fun _ _ _ _ _ => (pg_name (i := 5) sc_counts_within.nd rfl (.inl rfl))) (fun _ _ _ _ _ => pts_nil) (fun _ _ _ _ _ => (pe_tup (pa_cons (pv 5) (pa_cons (g_ways_to_pair.call hr pass0 (pa_cons (pv 0) (pa_cons (pe_ix ix_str (pv 1) (pv 4) (fun _ _ => rfl)) (pa_cons (pe_ix ix_str (pv 1) (pv 5) (fun _ _ => rfl)) pa_nil)))) pa_nil)))))
       (pss_one (ps_for PassesOwn.never rfl (pi_range3 rfl T.b_range (pa_cons (pe_op op_add (pv 4) pe_int) (pa_cons (pe_op op_add (pv 2) pe_int) (pa_cons pe_int pa_nil)))) (pg_name (i := 7) sc_counts_within.nd rfl (.inl rfl))
        (pss_cons (ps_set (i := 8) sc_counts_within.nd rfl (.inl rfl) pe_int)
       (pss_cons (ps_for PassesOwn.never rfl (pi_list (pv 6)) (pg_tup (by rfl) (pgs_cons (pg_name (i := 5) sc_counts_within.nd rfl (.inl rfl)) (pgs_cons (pg_name (i := 9) sc_counts_within.nd rfl (.inl rfl)) pgs_nil)))
        (pss_one (ps_if (PW.pt (pw_and (pt_cmpR op_lt (pv 5) (pv 7) (nomark _)) (pw_and1 (pt_cmpR op_gt (pv 9) pe_int (nomark _)))))
        (pss_one (ps_aug (i := 8) sc_counts_within.nd rfl (.inl rfl) (pe_op op_mulW (pe_op op_mulW (pv 9) (pe_dget hu (pv 3) (pe_tup (pa_cons (pe_op op_add (pv 4) pe_int) (pa_cons (pv 5) pa_nil))) (fun _ _ => rfl))) (pe_dget hu (pv 3) (pe_tup (pa_cons (pe_op op_add (pv 5) pe_int) (pa_cons (pv 7) pa_nil))) (fun _ _ => rfl))) ip_add))
        pss_nil)))
       (pss_one (ps_dput hu (pv 3) (pe_tup (pa_cons (pv 4) (pa_cons (pv 7) pa_nil))) (pv 8) rfl)))))))))
       (pss_one (ps_ret (pv 3)))))) , ?_⟩
    have hln : (Tx l).length = l.length := Tx_len l
    -- many = len(row); counts = {}
    refine ⟨_, rfl, _, rfl, by rw [Tx_len]; exact sl_le (by omega), fun d hd => ?_⟩
    rw [hln]
    obtain ⟨n, hn⟩ : ∃ n, n = l.length := ⟨_, rfl⟩
    have hn40 : n ≤ 40 := by omega
    rw [← hn]
    -- for begin in range(many, -1, -1)
    refine ⟨_, rfl, 1, rfl, 1, rfl, (n : Int), -1, -1, n + 1, rfl, rg_dn (by omega), ?_⟩
    refine for_it walk_rangeC (fun i σ H' => ∃ y4 y5 y6 y7 y8 y9 kvs, σ = [some (.int k), some (.str (Tx l)), some (.int n), some (.ref d), y4, y5, y6, y7, y8, y9] ∧ SameX d H H' ∧ H' d = some (.dT kvs) ∧
        Tab (fun i j => (nI (Wd k l i j))) n (n + 1 - i) 0 kvs ∧ kvs.length ≤ 50 * i)
      ⟨none, none, none, none, none, none, [], rfl, same_x, upd_same, tab_start, Nat.le_refl _⟩ (fun _ _ _ _ _ => trivial) (fun i x σ H2 H3 hi hP hY => ?_) (fun σ H2 hP => ?_)
    · obtain ⟨y4, y5, y6, y7, y8, y9, kvs, rfl, s2, e2, tb, hln⟩ := hP
      obtain ⟨rfl, hx⟩ := hY
      obtain ⟨b, hb⟩ : ∃ b, b = n - i := ⟨_, rfl⟩
      have hx' : x = .int (b : Int) := hx.trans (congrArg V.int (show (n : Int) + ((i : Nat) : Int) * (-1) = (b : Int) by omega))
      subst hx'
      clear hx
      rw [show n + 1 - i = b + 1 by omega] at tb
      -- counts[begin, begin] = 1
      refine ⟨_, rfl, _, rfl, _, rfl, by show 2 ≤ sizeLine; decide, fun p hp => ?_⟩
      have npd : d ≠ p := ne_of_none e2 hp
      refine ⟨d, _, rfl, DPut.t (k := ky b b) (by rw [upd_ne npd]; exact e2) upd_same (sl_lt (by omega)), ?_⟩
      have s4 : SameX d H3 (upd (upd H3 p (.tup [.int b, .int b])) d (.dT (putK kvs (ky b b) (.int 1)))) := (sameX (same_upd hp)).up
      have tb4 : Tab (fun i j => (nI (Wd k l i j))) n (b + 1) (b + 1) (putK kvs (ky b b) (.int 1)) := by
        have := tab_diag tb
        rw [Wd_self k l b] at this
        exact this
      have hl4 : (putK kvs (ky b b) (V.int 1)).length ≤ 50 * i + 1 := Nat.le_trans (putK_ln _ _ _) (by omega)
      obtain ⟨H4, hH4⟩ : ∃ H4, H4 = upd (upd H3 p (.tup [.int b, .int b])) d (.dT (putK kvs (ky b b) (.int 1))) := ⟨_, rfl⟩
      have e4 : H4 d = some (.dT (putK kvs (ky b b) (.int 1))) := by rw [hH4]; exact upd_same
      obtain ⟨kv4, hkv⟩ : ∃ z, z = putK kvs (ky b b) (V.int 1) := ⟨_, rfl⟩
      rw [← hkv] at e4 tb4 hl4
      have goal4 : ∀ Z : Hp → Prop, Z H4 → Z (upd (upd H3 p (.tup [.int b, .int b])) d (.dT (putK kvs (ky b b) (.int 1)))) := fun Z z => by rw [← hH4]; exact z
      refine goal4 _ ?_
      rw [← hH4] at s4
      clear goal4 hH4 hkv
      -- pairs = [..]
      refine ⟨_, rfl, _, _, rfl, rfl, _, rfl, ((b + 1 : Nat) : Int), (n : Int), 2, (n - (b + 1) + 1) / 2, rfl, rg_two (by omega) (by omega), fun D hD => ?_⟩
      refine lc_it walk_rangeC (fun m H' => Same H4 H' ∧ ∃ as : List Addr, H' D = some (.lst (as.map V.ref)) ∧ as.length = m ∧ ∀ t a, as[t]? = some a → H' a = some (.tup [(nI (b + 1 + 2 * t)), (nI (ways k (l.getD b 0) (l.getD (b + 1 + 2 * t) 0)))]))
        ⟨same_upd hD, [], upd_same, rfl, fun t a h => by simp at h⟩ (fun _ _ _ _ => trivial) (fun m x H5 H6 hm hP hY => ?_) (fun H5 hP => ?_)
      · obtain ⟨s5, as, eD, la, ha⟩ := hP
        obtain ⟨rfl, hx⟩ := hY
        have hx' : x = nI (b + 1 + 2 * m) := hx.trans (congrArg V.int (show ((b + 1 : Nat) : Int) + ((m : Nat) : Int) * 2 = ((b + 1 + 2 * m : Nat) : Int) by omega))
        subst hx'
        clear hx
        have hc : b + 1 + 2 * m < l.length := by omega
        refine ⟨rfl, ?_⟩
        refine ⟨_, rfl, _, rfl, ⟨_, rfl, _, rfl, _, _, _, rfl, rfl, by rw [Tx_len]; exact sl_le (by omega), at_tx (getD_at (by omega)), _, rfl, _, rfl, _, _, _, rfl, rfl, by rw [Tx_len]; exact sl_le (by omega), at_tx (getD_at hc), k, _, _, rfl, hk, fun H7 s7 => ?_⟩⟩
        refine ⟨by show 2 ≤ sizeLine; decide, fun T hT => ⟨as.map V.ref, ?_, by rw [List.length_map]; exact sl_lt (by omega), ?_⟩⟩
        · exact same_upd hT _ _ (s7 _ _ eD)
        · have nTD : T ≠ D := fun z => by
            have := s7 _ _ eD
            rw [← z, hT] at this
            cases this
          refine ⟨fun c o e => ?_, as ++ [T], ?_, by rw [List.length_append, la]; rfl, fun t a h => ?_⟩
          · rw [upd_ne (ne_of_none e hD)]
            exact same_upd hT _ _ (s7 _ _ (s5 _ _ e))
          · rw [upd_same, List.map_append]
            rfl
          · by_cases z : t < m
            · have h2 : as[t]? = some a := by
                rw [List.getElem?_append_left (by omega)] at h
                exact h
              have h3 := ha t a h2
              have naD : a ≠ D := ne_of h3 eD (by intro z; cases z)
              rw [upd_ne naD]
              exact same_upd hT _ _ (s7 _ _ h3)
            · have ht : t = m := by
                have := (List.getElem?_eq_some_iff.mp h).1
                rw [List.length_append, la] at this
                simp at this
                omega
              subst ht
              rw [List.getElem?_append_right (by omega), la, Nat.sub_self] at h
              have : T = a := Option.some.inj h
              subst this
              rw [upd_ne nTD, upd_same]
      · obtain ⟨s5, as, eD, la, ha⟩ := hP
        have nDd : d ≠ D := ne_of_none e4 hD
        have e5 : H5 d = some (.dT kv4) := s5 _ _ e4
        -- for end in range(begin + 2, many + 1, 2)
        refine ⟨_, rfl, _, _, rfl, rfl, _, rfl, _, _, rfl, rfl, ((b + 2 : Nat) : Int), ((n + 1 : Nat) : Int), 2, (n + 1 - (b + 2) + 1) / 2, rfl, rg_two (by omega) (by omega), ?_⟩
        refine for_it walk_rangeC (fun t σ H' => ∃ y5 y7 y8 y9 kv, σ = [some (.int k), some (.str (Tx l)), some (.int n), some (.ref d), some (.int b), y5, some (.ref D), y7, y8, y9] ∧ SameX d H5 H' ∧ H' d = some (.dT kv) ∧
            Tab (fun i j => (nI (Wd k l i j))) n (b + 1) (b + 1 + 2 * t) kv ∧ kv.length ≤ 50 * i + 1 + t)
          ⟨_, _, _, _, kv4, rfl, SameX.refl _ _, e5, tb4, hl4⟩ (fun _ _ _ _ _ => trivial) (fun t x σ H6 H7 ht hP hY => ?_) (fun σ H6 hP => ?_)
        · obtain ⟨y5, y7, y8, y9, kv, rfl, s6, e6, tb6, hl6⟩ := hP
          obtain ⟨rfl, hx⟩ := hY
          have hx' : x = nI (b + 2 + 2 * t) := hx.trans (congrArg V.int (show ((b + 2 : Nat) : Int) + ((t : Nat) : Int) * 2 = ((b + 2 + 2 * t : Nat) : Int) by omega))
          subst hx'
          clear hx
          have he : b + 2 * t + 2 ≤ l.length := by omega
          have eD7 : H7 D = some (.lst (as.map V.ref)) := s6 _ _ nDd.symm eD
          have hp7 : ∀ t a, as[t]? = some a → H7 a = some (.tup [(nI (b + 1 + 2 * t)), (nI (ways k (l.getD b 0) (l.getD (b + 1 + 2 * t) 0)))]) := fun t a h => s6 _ _ (ne_of (ha t a h) e5 (by intro z; cases z)) (ha t a h)
          -- for close, ways in pairs
          refine ⟨_, rfl, D, rfl, ⟨_, .inl (.inl eD7)⟩, ?_⟩
          refine for_it (walk_list (K := K) (a := D) (xs := as.map V.ref)) (fun m σ H' => ∃ y5 y9, σ = [some (.int k), some (.str (Tx l)), some (.int n), some (.ref d), some (.int b), y5, some (.ref D), some ((nI (b + 2 + 2 * t))), some ((nI (sumK m (pt k l b (b + 2 + 2 * t))))), y9] ∧ Same H7 H')
            ⟨_, _, rfl, Same.refl _⟩ (fun m σ H' _ hP => ?_) (fun m x σ H8 H9 hm hP hY => ?_) (fun σ H8 hP => ?_)
          · obtain ⟨_, _, _, s8⟩ := hP
            exact .inl (.inl (s8 _ _ eD7))
          · obtain ⟨y5, y9, rfl, s8⟩ := hP
            obtain ⟨rfl, hx⟩ := hY
            rw [List.getElem?_map] at hx
            rw [List.length_map] at hm
            obtain ⟨a, hat⟩ : ∃ a, as[m]? = some a := ⟨as[m], by simp [hm]⟩
            rw [hat] at hx
            have hx := (Option.some.inj hx).symm
            subst hx
            have hT := s8 _ _ (hp7 m a hat)
            refine ⟨a, _, rfl, .inl (.inl hT), rfl, _, _, rfl, _, _, rfl, rfl, ?_⟩
            have hmM : b + 1 + 2 * m < l.length := by omega
            have stay : pt k l b (b + 2 + 2 * t) m = 0 → ∃ y5 y9, ([some (.int k), some (.str (Tx l)), some (.int n), some (.ref d), some (.int b), some ((nI (b + 1 + 2 * m))), some (.ref D), some ((nI (b + 2 + 2 * t))), some ((nI (sumK m (pt k l b (b + 2 + 2 * t))))), some ((nI (ways k (l.getD b 0) (l.getD (b + 1 + 2 * m) 0))))] : L2.St) =
                [some (.int k), some (.str (Tx l)), some (.int n), some (.ref d), some (.int b), y5, some (.ref D), some ((nI (b + 2 + 2 * t))), some ((nI (sumK (m + 1) (pt k l b (b + 2 + 2 * t))))), y9] ∧ Same H7 H9 := fun z =>
              ⟨some ((nI (b + 1 + 2 * m))), some ((nI (ways k (l.getD b 0) (l.getD (b + 1 + 2 * m) 0)))), by rw [show sumK (m + 1) (pt k l b (b + 2 + 2 * t)) = sumK m (pt k l b (b + 2 + 2 * t)) by rw [sumK_succ, z]; rfl], s8⟩
            refine ⟨_, rfl, _, rfl, _, _, rfl, rfl, _, rfl, ?_⟩
            refine iteB (fun c1 => ?_) (fun c1 => iteF (stay ?_))
            · have c1' : b + 1 + 2 * m < b + 2 + 2 * t := by
                have := of_decide_eq_true c1
                omega
              refine ⟨_, rfl, _, _, rfl, rfl, _, rfl, iteB (fun c2 => ?_) (fun c2 => stay ?_)⟩
              · have c2' : 0 < ways k (l.getD b 0) (l.getD (b + 1 + 2 * m) 0) := by
                  have := of_decide_eq_true c2
                  omega
                have e9 : H9 d = some (.dT kv) := s8 _ _ e6
                -- found += ways * counts[begin + 1, close] * counts[close + 1, end]
                refine ⟨_, rfl, _, rfl, _, rfl, _, rfl, _, _, rfl, rfl, _, rfl, by show 2 ≤ sizeLine; decide, fun p1 hp1 => ⟨d, _, rfl, dget_t (k := ky (b + 1) (b + 1 + 2 * m)) (same_upd hp1 _ _ e9) upd_same (tab_get tb6 (by omega) (by omega) ⟨.inl (by omega), by omega, by omega⟩), ?_⟩⟩
                refine ⟨_, _, rfl, rfl, wide_mul (nat_lt_pow (Nat.lt_of_le_of_lt (ways_le _ _ _) (by omega : k < 2 ^ 10))) (nat_lt_pow (Wd_le hk (by omega) _ _)) (by decide) (by decide) (by decide), ?_⟩
                refine ⟨_, rfl, _, rfl, _, _, rfl, rfl, _, rfl, by show 2 ≤ sizeLine; decide, fun p2 hp2 => ⟨d, _, rfl, dget_t (k := ky (b + 1 + 2 * m + 1) (b + 2 + 2 * t)) (same_upd hp2 _ _ (same_upd hp1 _ _ e9)) upd_same (tab_get tb6 (by omega) (by omega) ⟨.inl (by omega), by omega, by omega⟩), ?_⟩⟩
                refine ⟨_, _, rfl, rfl, wide_mul (a := 110) (by
                  rw [Int.natAbs_mul]
                  have h1 : ((ways k (l.getD b 0) (l.getD (b + 1 + 2 * m) 0) : Nat) : Int).natAbs ≤ 2 ^ 10 := by
                    have := ways_le k (l.getD b 0) (l.getD (b + 1 + 2 * m) 0)
                    rw [Int.natAbs_natCast]
                    exact Nat.le_trans this (by omega)
                  have h2 := nat_lt_pow (Wd_le hk (by omega : l.length ≤ 40) (b + 1) (b + 1 + 2 * m))
                  calc _ ≤ 2 ^ 10 * ((Wd k l (b + 1) (b + 1 + 2 * m) : Nat) : Int).natAbs := Nat.mul_le_mul_right _ h1
                    _ < 2 ^ 10 * 2 ^ 100 := Nat.mul_lt_mul_of_pos_left h2 (by decide)
                    _ = 2 ^ 110 := by decide +kernel) (nat_lt_pow (Wd_le hk (by omega) _ _)) (by decide) (by decide) (by decide), ?_⟩
                refine ⟨_, _, rfl, rfl, some ((nI (b + 1 + 2 * m))), some ((nI (ways k (l.getD b 0) (l.getD (b + 1 + 2 * m) 0)))), ?_, (s8.trans (same_upd hp1)).trans (same_upd hp2)⟩
                rw [sumK_succ]
                have e : pt k l b (b + 2 + 2 * t) m = ways k (l.getD b 0) (l.getD (b + 1 + 2 * m) 0) * Wd k l (b + 1) (b + 1 + 2 * m) * Wd k l (b + 1 + 2 * m + 1) (b + 2 + 2 * t) := by
                  unfold pt
                  rw [if_pos ⟨c1', c2'⟩]
                  rfl
                rw [e]
                show ([_, _, _, _, _, _, _, _, some (V.int (_ + _ * _ * _)), _] : L2.St) = [_, _, _, _, _, _, _, _, some (V.int _), _]
                rw [Int.natCast_add, Int.natCast_mul, Int.natCast_mul]
              · unfold pt
                rw [if_neg]
                intro z
                have := of_decide_eq_false c2
                omega
            · unfold pt
              rw [if_neg]
              intro z
              have := of_decide_eq_false c1
              omega
          · rw [List.length_map, la, pt_sum he (by omega)] at hP
            obtain ⟨y5, y9, rfl, s8⟩ := hP
            -- counts[begin, end] = found
            have e8 : H8 d = some (.dT kv) := s8 _ _ e6
            refine ⟨_, rfl, _, rfl, _, rfl, _, rfl, by show 2 ≤ sizeLine; decide, fun p hp => ?_⟩
            have npd : d ≠ p := ne_of_none e8 hp
            refine ⟨d, _, rfl, DPut.t (k := ky b (b + 2 + 2 * t)) (by rw [upd_ne npd]; exact e8) upd_same (sl_lt (by omega)), ?_⟩
            refine ⟨_, _, _, _, _, rfl, ((s6.trans (sameX s8)).trans (sameX (same_upd hp))).up, upd_same, tab_put tb6, Nat.le_trans (putK_ln _ _ _) (by omega)⟩
        · obtain ⟨y5, y7, y8, y9, kv, rfl, s6, e6, tb6, hl6⟩ := hP
          refine ⟨_, _, _, _, _, _, kv, rfl, ?_, e6, ?_, ?_⟩
          · exact ((s2.trans s4).trans (sameX s5)).trans s6
          · rw [show n + 1 - (i + 1) = b by omega]
            rw [show (n + 1 - (b + 2) + 1) / 2 = (n - b) / 2 by omega] at tb6
            exact tab_next tb6
          · omega
    · obtain ⟨y4, y5, y6, y7, y8, y9, kvs, rfl, s2, e2, tb, hln⟩ := hP
      refine ⟨_, rfl, q H2 d kvs (s2.new hd) hd e2 ?_⟩
      rw [show n + 1 - (n + 1) = 0 by omega] at tb
      unfold CTab
      rw [← hn]
      exact tb
end
end BR
set_option Elab.async false
set_option linter.all false
set_option maxRecDepth 100000
set_option maxHeartbeats 4000000
/-! D4: how many; can_pair -/
namespace BR
open PySem PySem.Spec PyProof.Rows L2
theorem op_at {i : Nat} (h : i < 4) : lOP[i]? = some (br (2 * i)) := by
  have h2 : ∀ i, i < 4 → lOP[i]? = some (br (2 * i)) := by decide
  exact h2 i h
theorem cl_at {i : Nat} (h : i < 4) : lCL[i]? = some (br (2 * i + 1)) := by
  have h2 : ∀ i, i < 4 → lCL[i]? = some (br (2 * i + 1)) := by decide
  exact h2 i h
theorem eqV_sign (x y : Nat) : eqV (V.str (Tx [x])) (V.str (Tx [y])) = decide (y = x) := by
  show decide (Tx [x] = Tx [y]) = _
  refine decide_eq_decide.mpr ⟨fun z => ?_, fun z => by rw [z]⟩
  have := Tx_inj z
  injection this with h _
  exact h.symm
theorem inV2 (c a b : Nat) : (if false = true then !inV (V.str (Tx [c])) [V.str (Tx [a]), V.str (Tx [b])] else inV (V.str (Tx [c])) [V.str (Tx [a]), V.str (Tx [b])]) = (decide (c = a) || decide (c = b)) := by
  rw [if_neg (by decide)]
  show ((eqV (V.str (Tx [a])) (V.str (Tx [c]))) || ((eqV (V.str (Tx [b])) (V.str (Tx [c]))) || false)) = _
  rw [eqV_sign, eqV_sign, Bool.or_false]
theorem letB_sw (c b : Nat) : (decide (c = b) || decide (c = 63)) = letB c b := by
  unfold letB
  rw [Bool.or_comm]
theorem sumK_ge {k i : Nat} (f : Nat → Nat) (h : i < k) : f i ≤ sumK k f := by
  induction k with
  | zero => omega
  | succ k ih =>
    rw [sumK_succ]
    by_cases e : i = k
    · rw [e]
      omega
    · have := ih (by omega)
      omega
def canP (k c d : Nat) : Bool := decide (0 < ways k c d)
section
variable {P : Program} {w : World} {K : PySem.W.Frag} {mg : Str → Option Value} {base : Heap} {f : Addr} {fd : FuncData}
def spHowMany : Sp := fun vs H Q _ => ∃ (k : Nat) (l : List Nat), vs = [.int k, .str (Tx l)] ∧ 1 ≤ k ∧ k ≤ 4 ∧ As l ∧ rowBy k l = true ∧ ∀ H', Same H H' → Q (nI (Wn k l)) H'
theorem sc_how_many : FnScope ["k", "row"] ["k", "row"] (defScope s_how_many) := ⟨rfl, rfl, rfl, by decide +kernel, rfl, by decide +kernel, by decide +kernel⟩
theorem ok_how_many (T : Txt K mg) (F : FunP K "how_many" "how_many" s_how_many f fd) (g_need_line : Dk P w K mg base CX0 3 "need_line" ["k", "row"] spNeedLine)
    (g_counts_within : Dk P w K mg base CX0 3 "counts_within" ["k", "row"] spCounts) : FnOk P w K mg base CX0 4 f fd ["k", "row"] spHowMany := by
  refine F.ok sc_how_many (fun vs H Q E h => ?_) (fun cdv A outer s H vs Q E hr h => ?_)
  · obtain ⟨k, l, rfl, _⟩ := h
    rfl
  · obtain ⟨k, l, rfl, h1, h2, ha, hb, q⟩ := h
    have hu := hu_of hr
    have hl := rowBy_len hb
    refine ⟨_, PSs.nox (pss_cons (ps_expr (g_need_line.call hr pass0 (pa_cons (pv 0) (pa_cons (pv 1) pa_nil))))
       (pss_cons (ps_if (pt_cmpR op_eq (pe_op op_mod (pe_callB call_len_str (by rfl) T.b_len (by decide +kernel) (pa_cons (pv 1) pa_nil)) pe_int) pe_int (nomark _))
        (pss_one (ps_ret pe_int))
        pss_nil)
       (pss_one (ps_ret (pe_dget hu (g_counts_within.call hr pass0 (pa_cons (pv 0) (pa_cons (pv 1) pa_nil))) (pe_tup (pa_cons pe_int (pa_cons (pe_callB call_len_str (by rfl) T.b_len (by decide +kernel) (pa_cons (pv 1) pa_nil)) pa_nil))) (fun _ _ => rfl)))))) , ?_⟩
    refine ⟨_, rfl, _, rfl, k, l, rfl, h1, h2, ha, hb, fun H1 s1 => ?_⟩
    refine ⟨_, rfl, _, rfl, by rw [Tx_len]; exact sl_le (by omega), _, _, rfl, rfl, by show (0 : Int) < 2; decide, rfl, _, rfl, ?_⟩
    rw [Tx_len]
    refine iteB (fun c => ?_) (fun c => ?_)
    · have e : Wn k l = 0 := Wn_odd k l (by
        have := V.int.inj (of_decide_eq_true c)
        omega)
      have z := q H1 s1
      rw [e] at z
      exact z
    · have hev : l.length % 2 = 0 := by
        have z := of_decide_eq_false c
        have : ¬ ((l.length : Int) % 2 = 1) := fun y => z (congrArg V.int y)
        omega
      refine ⟨_, rfl, _, rfl, k, l, rfl, h2, hl, fun H2 d kvs s2 hd e2 tb => ?_⟩
      refine ⟨_, rfl, _, rfl, by rw [Tx_len]; exact sl_le (by omega), by show 2 ≤ sizeLine; decide, fun p hp => ⟨d, _, rfl, dget_t (k := ky 0 l.length) (same_upd hp _ _ e2) ?_ (tab_get tb (by omega) (by omega) ⟨.inl (by omega), by omega, by omega⟩), ?_⟩⟩
      · rw [Tx_len]
        exact upd_same
      · have e : Wd k l 0 l.length = Wn k l := by
          unfold Wd
          rw [sl_all]
        rw [e]
        exact q _ ((s1.trans s2).trans (same_upd hp))
def spCanPair : Sp := fun vs H Q _ => ∃ k c d : Nat, vs = [.int k, .str (Tx [c]), .str (Tx [d])] ∧ k ≤ 4 ∧ ∀ H', Same H H' → Q (.bl (canP k c d)) H'
theorem sc_can_pair : FnScope ["k", "one", "other", "kind"] ["k", "one", "other"] (defScope s_can_pair) := ⟨rfl, rfl, rfl, by decide +kernel, rfl, by decide +kernel, by decide +kernel⟩
theorem ok_can_pair (T : Txt K mg) (F : FunP K "can_pair" "can_pair" s_can_pair f fd) : FnOk P w K mg base CX0 1 f fd ["k", "one", "other"] spCanPair := by
  refine F.ok sc_can_pair (fun vs H Q E h => ?_) (fun cdv A outer s H vs Q E hr h => ?_)
  · obtain ⟨k, c, d, rfl, _⟩ := h
    rfl
  · obtain ⟨k, c, d, rfl, h1, q⟩ := h
    refine ⟨_, PSs.nox (pss_cons (ps_for PassesOwn.never rfl (pi_range1 rfl T.b_range (pa_cons (pv 0) pa_nil)) (pg_name (i := 3) sc_can_pair.nd rfl (.inl rfl))
        (pss_one (ps_if (PW.pt (pw_and (pt_cmpR op_in_seq (pv 1) (pe_tup (pa_cons (pe_ix ix_str (pe_gS T.c_OPENING) (pv 3) (fun _ _ => rfl)) (pa_cons (pe_gS T.c_UNKNOWN) pa_nil))) rfl) (pw_and1 (pt_cmpR op_in_seq (pv 2) (pe_tup (pa_cons (pe_ix ix_str (pe_gS T.c_CLOSING) (pv 3) (fun _ _ => rfl)) (pa_cons (pe_gS T.c_UNKNOWN) pa_nil))) rfl))))
        (pss_one (ps_ret pe_bl))
        pss_nil)))
       (pss_one (ps_ret pe_bl))) , ?_⟩
    refine ⟨_, rfl, (k : Int), rfl, by omega, by omega, ?_⟩
    refine for_it walk_range (fun i σ H' => ∃ y, σ = [some (.int k), some (.str (Tx [c])), some (.str (Tx [d])), y] ∧ Same H H' ∧ ways i c d = 0)
      ⟨none, rfl, Same.refl H, rfl⟩ (fun _ _ _ _ _ => trivial) (fun i x σ H2 H3 hi hP hY => ?_) (fun σ H2 hP => ?_)
    · obtain ⟨y, rfl, s2, e2⟩ := hP
      obtain ⟨rfl, rfl⟩ := hY
      have hi' : i < k := by omega
      have next : (letB c (br (2 * i)) && letB d (br (2 * i + 1))) = false → ∀ H4, Same H H4 → ∃ y, ([some (.int k), some (.str (Tx [c])), some (.str (Tx [d])), some (.int (0 + (i : Int)))] : L2.St) = [some (.int k), some (.str (Tx [c])), some (.str (Tx [d])), y] ∧ Same H H4 ∧ ways (i + 1) c d = 0 := fun z H4 s4 => by
        refine ⟨some (.int (0 + (i : Int))), rfl, s4, ?_⟩
        unfold ways at e2 ⊢
        rw [sumK_succ, e2, ← lN_and, z]
        rfl
      refine ⟨_, rfl, _, rfl, _, _, _, rfl, rfl, by decide, at_txI (j := i) (by omega) (op_at (by omega)), by show 2 ≤ sizeLine; decide, fun p hp => ⟨p, _, rfl, .inr (SqT.of upd_same), rfl, rfl, _, rfl, ?_⟩⟩
      rw [Tx_one, inV2, letB_sw]
      refine iteB (fun z1 => ?_) (fun z1 => iteF (next (by rw [z1]; rfl) _ (s2.trans (same_upd hp))))
      refine ⟨_, rfl, _, rfl, _, _, _, rfl, rfl, by decide, at_txI (j := i) (by omega) (cl_at (by omega)), by show 2 ≤ sizeLine; decide, fun p2 hp2 => ⟨p2, _, rfl, .inr (SqT.of upd_same), rfl, rfl, _, rfl, ?_⟩⟩
      rw [Tx_one, inV2, letB_sw]
      have s4 := (s2.trans (same_upd hp)).trans (same_upd (o := .tup [.str (Tx [br (2 * i + 1)]), .str (Tx [63])]) hp2)
      refine iteB (fun z2 => ?_) (fun z2 => next (by rw [z1, z2]; rfl) _ s4)
      have e : canP k c d = true := by
        refine decide_eq_true ?_
        have h3 := sumK_ge (fun κ => lN c (br (2 * κ)) * lN d (br (2 * κ + 1))) hi'
        have h4 : lN c (br (2 * i)) * lN d (br (2 * i + 1)) = 1 := by
          rw [← lN_and, z1, z2]
          rfl
        unfold ways
        omega
      have z := q _ s4
      rw [e] at z
      exact z
    · obtain ⟨y, rfl, s2, e2⟩ := hP
      have e : canP k c d = false := by
        refine decide_eq_false ?_
        have e3 : (k : Int).toNat = k := by omega
        rw [e3] at e2
        omega
      have z := q _ s2
      rw [e] at z
      exact z
end
end BR
set_option Elab.async false
set_option linter.all false
set_option maxRecDepth 100000
set_option maxHeartbeats 4000000
/-! M3: sets of places as dicts' keys; where a stretch may end; what may be open -/
namespace BR
open PySem PySem.Spec PyProof.Rows L2
abbrev kI (m : Nat) : L2.Key := Sum.inl (m : Int)
theorem kI_inj {a b : Nat} (h : kI a = kI b) : a = b := by
  have := Sum.inl.inj h
  omega
/-- the dict's keys are the places of S -/
def KS (kvs : List (L2.Key × V)) (S : Nat → Bool) : Prop := ∃ ms : List Nat, kvs.map (·.1) = ms.map kI ∧ ms.Nodup ∧ ∀ m, m ∈ ms ↔ S m = true
theorem KS.nil : KS [] (fun _ => false) := ⟨[], rfl, List.nodup_nil, fun m => by simp⟩
theorem KS.put {kvs : List (L2.Key × V)} {S : Nat → Bool} (h : KS kvs S) (m : Nat) (v : V) : KS (putK kvs (kI m) v) (fun x => S x || decide (x = m)) := by
  obtain ⟨ms, e, nd, hm⟩ := h
  have hany : (kvs.any fun kv => decide (kv.1 = kI m)) = decide (m ∈ ms) := by
    have h1 : (kvs.any fun kv => decide (kv.1 = kI m)) = (kvs.map (·.1)).any fun k => decide (k = kI m) := by rw [List.any_map]; rfl
    rw [h1, e, List.any_map]
    by_cases q : m ∈ ms
    · rw [decide_eq_true q]
      exact List.any_eq_true.mpr ⟨m, q, by simp⟩
    · rw [decide_eq_false q]
      refine Bool.eq_false_iff.mpr fun z => ?_
      obtain ⟨x, hx, hx2⟩ := List.any_eq_true.mp z
      exact q (kI_inj (of_decide_eq_true hx2) ▸ hx)
  unfold putK
  rw [hany]
  by_cases q : m ∈ ms
  · rw [if_pos (decide_eq_true q)]
    refine ⟨ms, ?_, nd, fun x => ?_⟩
    · rw [List.map_map, ← e]
      refine List.map_congr_left fun kv _ => ?_
      show (if kv.1 = kI m then (kv.1, v) else kv).1 = kv.1
      split <;> rfl
    · rw [hm, Bool.or_eq_true, decide_eq_true_iff]
      exact ⟨.inl, fun z => z.elim id fun z => by rw [z]; exact (hm m).mp q⟩
  · rw [if_neg (by simpa using q)]
    refine ⟨ms ++ [m], ?_, ?_, fun x => ?_⟩
    · rw [List.map_append, e, List.map_append]
      rfl
    · rw [List.nodup_append]
      exact ⟨nd, by simp, fun a ha b hb z => q (by rw [List.mem_singleton] at hb; rw [← hb, ← z]; exact ha)⟩
    · rw [List.mem_append, hm, List.mem_singleton, Bool.or_eq_true, decide_eq_true_iff]
theorem KS.congr {kvs : List (L2.Key × V)} {S S' : Nat → Bool} (h : KS kvs S) (e : ∀ m, S m = S' m) : KS kvs S' := by
  obtain ⟨ms, h1, h2, h3⟩ := h
  exact ⟨ms, h1, h2, fun m => by rw [h3, e]⟩
theorem KS.one (m : Nat) (v : V) : KS [(kI m, v)] (fun x => decide (x = m)) := ⟨[m], rfl, by simp, fun x => by simp⟩
theorem KS.len {kvs : List (L2.Key × V)} {S : Nat → Bool} {N : Nat} (h : KS kvs S) (hS : ∀ m, S m = true → m < N) : kvs.length ≤ N := by
  obtain ⟨ms, h1, h2, h3⟩ := h
  have e : kvs.length = ms.length := by
    have := congrArg List.length h1
    simpa using this
  rw [e]
  have := List.Nodup.length_le_of_subset h2 (l₂ := List.range N) fun m hm => List.mem_range.mpr (hS m ((h3 m).mp hm))
  simpa using this
/-- the places of S below N, rising -/
def upTo (N : Nat) (S : Nat → Bool) : List Nat := (List.range N).filter S
theorem upTo_mem {N : Nat} {S : Nat → Bool} {m : Nat} : m ∈ upTo N S ↔ m < N ∧ S m = true := by
  unfold upTo
  rw [List.mem_filter, List.mem_range]
theorem upTo_len (N : Nat) (S : Nat → Bool) : (upTo N S).length ≤ N := by
  have := List.length_filter_le S (List.range N)
  simpa [upTo] using this
theorem KS.sorted {kvs : List (L2.Key × V)} {S : Nat → Bool} {N : Nat} (h : KS kvs S) (hS : ∀ m, S m = true → m < N) : ∃ ks : List Int, kvs.map (·.1) = ks.map Sum.inl ∧ ks.length ≤ N ∧
    ∀ ys : List Int, ys.Perm ks → ys.Pairwise (· ≤ ·) → ys = (upTo N S).map fun m : Nat => (m : Int) := by
  have hl := h.len hS
  obtain ⟨ms, h1, h2, h3⟩ := h
  refine ⟨ms.map fun m : Nat => (m : Int), ?_, ?_, fun ys hp hs => ?_⟩
  · rw [h1, List.map_map]
    rfl
  · have e : kvs.length = ms.length := by
      have := congrArg List.length h1
      simpa using this
    rw [List.length_map, ← e]
    exact hl
  · have p2 : ms.Perm (upTo N S) := (List.perm_ext_iff_of_nodup h2 (List.nodup_range.filter S)).mpr fun m => by
      show m ∈ ms ↔ m ∈ upTo N S
      rw [upTo_mem, h3]
      exact ⟨fun z => ⟨hS m z, z⟩, fun z => z.2⟩
    refine List.Perm.eq_of_pairwise (fun a b _ _ => Int.le_antisymm) hs ?_ (hp.trans (p2.map _))
    rw [List.pairwise_map]
    exact (List.pairwise_lt_range.filter S).imp fun {a b} z => by omega
/-- where a stretch of a row may end, told from its beginning -/
def Es (k : Nat) : List Nat → Nat → Bool
  | [], e => decide (e = 0)
  | c :: l, e => decide (e = 0) || (List.range l.length).any fun m => decide (m + 2 ≤ e) && Es k l m && decide (0 < ways k c (l.getD m 0)) && Es k (l.drop (m + 1)) (e - (m + 2))
termination_by l => l.length
decreasing_by
  all_goals simp_wf
  all_goals omega
theorem Es_le (k : Nat) : ∀ (n : Nat) (l : List Nat), l.length ≤ n → ∀ e, Es k l e = true → e ≤ l.length
  | n, [], _, e, h => by
    rw [Es] at h
    have := of_decide_eq_true h
    simp [this]
  | 0, c :: l, h, _, _ => by simp at h
  | n + 1, c :: l, hl, e, h => by
    rw [Es] at h
    rw [Bool.or_eq_true] at h
    rcases h with h | h
    · have := of_decide_eq_true h
      omega
    · obtain ⟨m, hm, h2⟩ := List.any_eq_true.mp h
      rw [List.mem_range] at hm
      simp only [Bool.and_eq_true, decide_eq_true_eq] at h2
      have := Es_le k n (l.drop (m + 1)) (by simp at hl ⊢; omega) _ h2.2
      simp at this ⊢
      omega
theorem getD_drop (l : List Nat) (b m : Nat) : (l.drop b).getD m 0 = l.getD (b + m) 0 := by
  simp [List.getD_eq_getElem?_getD, List.getElem?_drop]
/-- .. by places -/
def RE (k : Nat) (l : List Nat) (b e : Nat) : Bool := decide (b ≤ e) && Es k (l.drop b) (e - b)
theorem RE_le {k : Nat} {l : List Nat} {b e : Nat} (hb : b ≤ l.length) (h : RE k l b e = true) : b ≤ e ∧ e < l.length + 1 := by
  unfold RE at h
  simp only [Bool.and_eq_true, decide_eq_true_eq] at h
  have := Es_le k _ _ (Nat.le_refl _) _ h.2
  simp at this
  omega
theorem RE_end (k : Nat) (l : List Nat) (e : Nat) : RE k l l.length e = decide (e = l.length) := by
  unfold RE
  rw [List.drop_length, Es]
  by_cases h : e = l.length
  · simp [h]
  · rw [decide_eq_false h]
    by_cases h2 : l.length ≤ e
    · rw [decide_eq_true h2, Bool.true_and]
      exact decide_eq_false (by omega)
    · rw [decide_eq_false h2, Bool.false_and]
/-- the ends from b on, by the ends behind -/
theorem RE_step {k : Nat} {l : List Nat} {b : Nat} (hb : b < l.length) (e : Nat) : RE k l b e = true ↔ e = b ∨ ∃ c, c < l.length ∧ RE k l (b + 1) c = true ∧ 0 < ways k (l.getD b 0) (l.getD c 0) ∧ RE k l (c + 1) e = true := by
  have ed : l.drop b = l.getD b 0 :: l.drop (b + 1) := by
    rw [List.drop_eq_getElem_cons hb]
    simp [List.getD_eq_getElem?_getD, hb]
  unfold RE
  rw [ed, Es]
  simp only [Bool.and_eq_true, decide_eq_true_eq, Bool.or_eq_true, List.any_eq_true, List.mem_range, List.length_drop, List.drop_drop]
  constructor
  · rintro ⟨h0, h | ⟨m, hm, ⟨⟨h1, h2⟩, h3⟩, h4⟩⟩
    · exact .inl (by omega)
    · refine .inr ⟨b + 1 + m, by omega, ⟨by omega, ?_⟩, ?_, by omega, ?_⟩
      · rw [show b + 1 + m - (b + 1) = m by omega]
        exact h2
      · rw [getD_drop] at h3
        exact h3
      · rw [show b + 1 + m + 1 = b + 1 + (m + 1) by omega, show e - (b + 1 + (m + 1)) = e - b - (m + 2) by omega]
        exact h4
  · rintro (h | ⟨c, hc, ⟨h1, h2⟩, h3, h4, h5⟩)
    · exact ⟨by omega, .inl (by omega)⟩
    · refine ⟨by omega, .inr ⟨c - (b + 1), by omega, ⟨⟨by omega, h2⟩, ?_⟩, ?_⟩⟩
      · rw [getD_drop, show b + 1 + (c - (b + 1)) = c by omega]
        exact h3
      · rw [show b + 1 + (c - (b + 1) + 1) = c + 1 by omega, show e - b - (c - (b + 1) + 2) = e - (c + 1) by omega]
        exact h5
def isOpn (k c : Nat) : Bool := decide (c ∈ lOP.take k ++ [63])
/-- what may be open: before place p has been looked at, at q -/
def OB (k : Nat) (l : List Nat) : Nat → Nat → Nat → Bool
  | 0, q, m => decide (q = 0) && decide (m = 0)
  | p + 1, q, m => OB k l p q m || (OB k l p p m && RE k l p q) || (decide (q = p + 1) && (decide (p < l.length) && isOpn k (l.getD p 0)) && decide (1 ≤ m) && OB k l p p (m - 1))
theorem OB_le {k : Nat} {l : List Nat} : ∀ {p q m : Nat}, OB k l p q m = true → m ≤ p
  | 0, q, m, h => by
    unfold OB at h
    simp only [Bool.and_eq_true, decide_eq_true_eq] at h
    omega
  | p + 1, q, m, h => by
    unfold OB at h
    simp only [Bool.or_eq_true, Bool.and_eq_true, decide_eq_true_eq] at h
    rcases h with (h | h) | h
    · have := OB_le h
      omega
    · have := OB_le h.1
      omega
    · have := OB_le h.2
      omega
/-- the depths at the end -/
def dpt (k : Nat) (l : List Nat) : List Nat := upTo (l.length + 2) (OB k l (l.length + 1) l.length)
end BR
set_option Elab.async false
set_option linter.all false
set_option maxRecDepth 100000
set_option maxHeartbeats 4000000
/-! D5: begun.py: where stretches may end -/
namespace BR
open PySem PySem.Spec PyProof.Rows L2
theorem dget_k {H : Hp} {a : Addr} {kvs : List (L2.Key × V)} {k : L2.Key} {v : V} (e : H a = some (.dK kvs)) (h : valV kvs k = some v) : DGet H a (kV k) (some v) := h ▸ DGet.k e
def EndsAt (k : Nat) (l : List Nat) (H : Hp) (kvs : List (L2.Key × V)) (b : Nat) : Prop := ∀ p, b ≤ p → p ≤ l.length → ∃ a, valV kvs (kI p) = some (.ref a) ∧ H a = some (.lst ((upTo (l.length + 1) (RE k l p)).map nI))
theorem take_any {α : Type} (p : α → Bool) {xs : List α} {m : Nat} {c : α} (h : xs[m]? = some c) : (xs.take (m + 1)).any p = ((xs.take m).any p || p c) := by
  rw [List.take_add_one, h, List.any_append]
  simp
section
variable {P : Program} {w : World} {K : PySem.W.Frag} {mg : Str → Option Value} {base : Heap} {f : Addr} {fd : FuncData}
def spEnds : Sp := fun vs H Q _ => ∃ (k : Nat) (l : List Nat), vs = [.int k, .str (Tx l)] ∧ k ≤ 4 ∧ l.length ≤ 40 ∧ ∀ H' d kvs, Same H H' → H d = none → H' d = some (.dK kvs) → EndsAt k l H' kvs 0 → Q (.ref d) H'
theorem sc_right_ends : FnScope ["k", "row", "ends", "begin", "found", "close", "end"] ["k", "row"] (defScope s_right_ends) := ⟨rfl, rfl, rfl, by decide +kernel, rfl, by decide +kernel, by decide +kernel⟩
theorem ok_right_ends (T : Txt K mg) (F : FunP K "right_ends" "right_ends" s_right_ends f fd) (g_can_pair : Dk P w K mg base CX0 1 "can_pair" ["k", "one", "other"] spCanPair) : FnOk P w K mg base CX0 2 f fd ["k", "row"] spEnds := by
  refine F.ok sc_right_ends (fun vs H Q E h => ?_) (fun cdv A outer s H vs Q E hr h => ?_)
  · obtain ⟨k, l, rfl, _⟩ := h
    rfl
  · obtain ⟨k, l, rfl, hk, hl, q⟩ := h
    have hu := hu_of hr
    refine ⟨_, PSs.nox (pss_cons (ps_set (i := 2) sc_right_ends.nd rfl (.inl rfl) (pe_disp (pps_cons (pe_callB call_len_str (by rfl) T.b_len (by decide +kernel) (pa_cons (pv 1) pa_nil)) (pe_lst (pa_cons (pe_callB call_len_str (by rfl) T.b_len (by decide +kernel) (pa_cons (pv 1) pa_nil)) pa_nil)) pps_nil) (by rfl) (by rfl) (fun z => by cases z) (by decide)))
       (pss_cons (ps_for PassesOwn.never rfl (pi_range3 rfl T.b_range (pa_cons (pe_op op_sub (pe_callB call_len_str (by rfl) T.b_len (by decide +kernel) (pa_cons (pv 1) pa_nil)) pe_int) (pa_cons (pe_un un_neg pe_int) (pa_cons (pe_un un_neg pe_int) pa_nil)))) (pg_name (i := 3) sc_right_ends.nd rfl (.inl rfl))
        (pss_cons (ps_set (i := 4) sc_right_ends.nd rfl (.inl rfl) (pe_disp (pps_cons (pv 3) pe_bl pps_nil) (by rfl) (by rfl) (fun z => by cases z) (by decide)))
       (pss_cons (ps_for PassesOwn.never rfl (pi_list (pe_dget hu (pv 2) (pe_op op_add (pv 3) pe_int) (fun _ _ => rfl))) (pg_name (i := 5) sc_right_ends.nd rfl (.inl rfl))
        (pss_one (ps_if (PW.pt (pw_and (pt_cmpR op_lt (pv 5) (pe_callB call_len_str (by rfl) T.b_len (by decide +kernel) (pa_cons (pv 1) pa_nil)) (nomark _)) (pw_and1 (pt_val (g_can_pair.call hr pass0 (pa_cons (pv 0) (pa_cons (pe_ix ix_str (pv 1) (pv 3) (fun _ _ => rfl)) (pa_cons (pe_ix ix_str (pv 1) (pv 5) (fun _ _ => rfl)) pa_nil))))))))
        (pss_one (ps_for PassesOwn.never rfl (pi_list (pe_dget hu (pv 2) (pe_op op_add (pv 5) pe_int) (fun _ _ => rfl))) (pg_name (i := 6) sc_right_ends.nd rfl (.inl rfl))
        (pss_one (ps_dput hu (pv 4) (pv 6) pe_bl rfl))))
        pss_nil)))
       (pss_one (ps_dput hu (pv 2) (pv 3) (pe_callB (call_sortedDI rfl) (by rfl) T.b_sorted (by decide +kernel) (pa_cons (pv 4) pa_nil)) rfl)))))
       (pss_one (ps_ret (pv 2))))) , ?_⟩
    have hln : (Tx l).length ≤ sizeLine := by rw [Tx_len]; exact sl_le (by omega)
    -- ends = {len(row): [len(row)]}
    intro d hd
    refine ⟨_, rfl, _, rfl, hln, _, rfl, _, rfl, hln, by show 1 ≤ sizeLine; decide, fun a0 ha0 => ⟨?_, [(kI l.length, .ref a0)], ?_, by show 1 ≤ 15; decide, ?_⟩⟩
    · exact same_upd ha0 _ _ upd_same
    · rw [Tx_len]
      rfl
    obtain ⟨n, hn⟩ : ∃ n, n = l.length := ⟨_, rfl⟩
    have nda : d ≠ a0 := fun z => by rw [← z, upd_same] at ha0; cases ha0
    have na0 : H a0 = none := by
      rw [upd_ne nda.symm] at ha0
      exact ha0
    -- for begin in range(len(row) - 1, -1, -1)
    refine ⟨_, rfl, _, rfl, hln, _, _, rfl, rfl, 1, rfl, 1, rfl, _, -1, -1, _, rfl, RgC.neg (by rw [Tx_len]; omega) (by rw [Tx_len]; omega) (by omega) (by omega), ?_⟩
    rw [Tx_len]
    refine for_it walk_rangeC (fun i σ H' => ∃ y3 y4 y5 y6 kvs, σ = [some (.int k), some (.str (Tx l)), some (.ref d), y3, y4, y5, y6] ∧ SameX d H H' ∧ H' d = some (.dK kvs) ∧ kvs.length ≤ i + 1 ∧ EndsAt k l H' kvs (n - i))
      ⟨none, none, none, none, [(kI l.length, .ref a0)], rfl, ?_, upd_same, Nat.le_refl _, ?_⟩ (fun _ _ _ _ _ => trivial) (fun i x σ H2 H3 hi hP hY => ?_) (fun σ H2 hP => ?_)
    · refine SameX.up fun b o nb e => ?_
      rw [upd_ne (ne_of_none e na0), upd_ne nb]
      exact e
    · intro p hp1 hp2
      have : p = l.length := by omega
      subst this
      refine ⟨a0, valV_pos rfl, ?_⟩
      rw [upd_ne nda.symm, upd_same]
      have e : upTo (l.length + 1) (RE k l l.length) = [l.length] := by
        unfold upTo
        rw [List.range_succ, List.filter_append]
        rw [List.filter_eq_nil_iff.mpr fun m hm => ?_]
        · rw [List.filter_cons, if_pos (by rw [RE_end]; simp)]
          rfl
        · rw [List.mem_range] at hm
          rw [RE_end]
          simp
          omega
      rw [e]
      rfl
    · obtain ⟨y3, y4, y5, y6, kvs, rfl, s2, e2, hlen, hE⟩ := hP
      obtain ⟨rfl, hx⟩ := hY
      have hi' : i < n := by omega
      obtain ⟨b, hb⟩ : ∃ b, b = n - 1 - i := ⟨_, rfl⟩
      have hx' : x = nI b := hx.trans (congrArg V.int (show ((l.length : Int) - 1) + ((i : Nat) : Int) * (-1) = (b : Int) by omega))
      subst hx'
      clear hx
      have hbn : b < l.length := by omega
      rw [show n - i = b + 1 by omega] at hE
      -- found = {begin: True}
      intro g hg
      refine ⟨_, rfl, upd_same, [(kI b, .bl true)], rfl, by show 1 ≤ 15; decide, ?_⟩
      rw [upd_upd]
      obtain ⟨H4, hH4⟩ : ∃ H4, H4 = upd H3 g (.dK (mergeK [] [(kI b, .bl true)])) := ⟨_, rfl⟩
      rw [← hH4]
      have s4 : Same H3 H4 := by rw [hH4]; exact same_upd hg
      have e4 : H4 g = some (.dK [(kI b, .bl true)]) := by rw [hH4]; exact upd_same
      have ed4 : H4 d = some (.dK kvs) := s4 _ _ e2
      have ndg : d ≠ g := ne_of_none e2 hg
      have hE4 : ∀ p, b + 1 ≤ p → p ≤ l.length → ∃ a, valV kvs (kI p) = some (.ref a) ∧ H4 a = some (.lst ((upTo (l.length + 1) (RE k l p)).map nI)) ∧ a ≠ g ∧ a ≠ d := fun p h1 h2 => by
        obtain ⟨a, ha1, ha2⟩ := hE p h1 h2
        exact ⟨a, ha1, s4 _ _ ha2, ne_of_none ha2 hg, ne_of ha2 e2 (by intro z; cases z)⟩
      clear hH4
      -- for close in ends[begin + 1]
      obtain ⟨a1, hv1, ha1, na1g, na1d⟩ := hE4 (b + 1) (Nat.le_refl _) hbn
      refine ⟨_, rfl, _, rfl, _, _, rfl, rfl, d, _, rfl, dget_k (k := kI (b + 1)) ed4 hv1, a1, rfl, ⟨_, .inl (.inl ha1)⟩, ?_⟩
      obtain ⟨cs, hcs⟩ : ∃ cs, cs = upTo (l.length + 1) (RE k l (b + 1)) := ⟨_, rfl⟩
      rw [← hcs] at ha1
      refine for_it (walk_list (K := K) (a := a1) (xs := cs.map nI)) (fun m σ H' => ∃ y5 y6 kf, σ = [some (.int k), some (.str (Tx l)), some (.ref d), some (nI b), some (.ref g), y5, y6] ∧ SameX g H4 H' ∧ H' g = some (.dK kf) ∧
          KS kf (fun e => decide (e = b) || (cs.take m).any fun c => decide (c < l.length) && canP k (l.getD b 0) (l.getD c 0) && RE k l (c + 1) e))
        ⟨_, _, _, rfl, SameX.refl _ _, e4, (KS.one b _).congr fun m => by simp⟩ (fun m σ H' _ hP => ?_) (fun m x σ H5 H6 hm hP hY => ?_) (fun σ H5 hP => ?_)
      · obtain ⟨_, _, _, _, s5, _⟩ := hP
        exact .inl (.inl (s5 _ _ na1g ha1))
      · obtain ⟨y5, y6, kf, rfl, s5, e5, hk5⟩ := hP
        obtain ⟨rfl, hx⟩ := hY
        rw [List.getElem?_map] at hx
        rw [List.length_map] at hm
        obtain ⟨c, hc⟩ : ∃ c, cs[m]? = some c := ⟨cs[m], by simp [hm]⟩
        rw [hc] at hx
        have hx := (Option.some.inj hx).symm
        subst hx
        have hcm : c ∈ cs := List.mem_of_getElem? hc
        rw [hcs, upTo_mem] at hcm
        have hce := RE_le hbn hcm.2
        have stay : (decide (c < l.length) && canP k (l.getD b 0) (l.getD c 0)) = false →
            KS kf (fun e => decide (e = b) || (cs.take (m + 1)).any fun c => decide (c < l.length) && canP k (l.getD b 0) (l.getD c 0) && RE k l (c + 1) e) := fun z =>
          hk5.congr fun e => by rw [take_any _ hc, z, Bool.false_and, Bool.or_false]
        refine ⟨_, rfl, _, rfl, _, rfl, hln, _, _, rfl, rfl, _, rfl, ?_⟩
        rw [Tx_len]
        refine iteB (fun c1 => ?_) (fun c1 => iteF ⟨_, _, kf, rfl, s5, e5, stay ?_⟩)
        · have c1' : c < l.length := by
            have := of_decide_eq_true c1
            omega
          refine ⟨_, rfl, ⟨_, rfl, _, rfl, _, _, _, rfl, rfl, hln, at_tx (getD_at hbn), _, rfl, _, rfl, _, _, _, rfl, rfl, hln, at_tx (getD_at c1'), k, _, _, rfl, hk, fun H7 s7 => ⟨_, rfl, iteB (fun c2 => ?_) (fun c2 => ⟨_, _, kf, rfl, s5.trans (sameX s7), s7 _ _ e5, stay ?_⟩)⟩⟩⟩
          · -- for end in ends[close + 1]
            obtain ⟨a2, hv2, ha2, na2g, na2d⟩ := hE4 (c + 1) (by omega) (by omega)
            have ed7 : H7 d = some (.dK kvs) := s7 _ _ (s5 _ _ ndg ed4)
            have ha7 := s7 _ _ (s5 _ _ na2g ha2)
            have eg7 := s7 _ _ e5
            refine ⟨_, rfl, _, rfl, _, _, rfl, rfl, d, _, rfl, dget_k (k := kI (c + 1)) ed7 hv2, a2, rfl, ⟨_, .inl (.inl ha7)⟩, ?_⟩
            obtain ⟨es, hes⟩ : ∃ es, es = upTo (l.length + 1) (RE k l (c + 1)) := ⟨_, rfl⟩
            rw [← hes] at ha7
            refine for_it (walk_list (K := K) (a := a2) (xs := es.map nI)) (fun j σ H' => ∃ y6 kf', σ = [some (.int k), some (.str (Tx l)), some (.ref d), some (nI b), some (.ref g), some (nI c), y6] ∧ SameX g H7 H' ∧ H' g = some (.dK kf') ∧
                KS kf' (fun e => (decide (e = b) || (cs.take m).any fun c => decide (c < l.length) && canP k (l.getD b 0) (l.getD c 0) && RE k l (c + 1) e) || (es.take j).any fun e2 => decide (e = e2)))
              ⟨_, _, rfl, SameX.refl _ _, eg7, hk5.congr fun m => by simp⟩ (fun j σ H' _ hP => ?_) (fun j x σ H8 H9 hj hP hY => ?_) (fun σ H8 hP => ?_)
            · obtain ⟨_, _, _, s8, _⟩ := hP
              exact .inl (.inl (s8 _ _ na2g ha7))
            · obtain ⟨y6', kf', rfl, s8, e8, hk8⟩ := hP
              obtain ⟨rfl, hx⟩ := hY
              rw [List.getElem?_map] at hx
              rw [List.length_map] at hj
              obtain ⟨e, he⟩ : ∃ e, es[j]? = some e := ⟨es[j], by simp [hj]⟩
              rw [he] at hx
              have hx := (Option.some.inj hx).symm
              subst hx
              have hlen8 : kf'.length ≤ l.length + 1 := hk8.len fun m' hm' => by
                simp only [Bool.or_eq_true, decide_eq_true_eq, List.any_eq_true, Bool.and_eq_true] at hm'
                rcases hm' with (h | ⟨c', _, h⟩) | ⟨e', h1, h2⟩
                · omega
                · exact (RE_le (by omega) h.2).2
                · have := List.mem_of_mem_take h1
                  rw [hes, upTo_mem] at this
                  omega
              refine ⟨_, rfl, _, rfl, g, _, rfl, DPut.k (k := kI e) e8 (sl_lt (by omega)), ?_⟩
              refine ⟨some (nI e), _, rfl, s8.up, upd_same, (hk8.put e _).congr fun e' => ?_⟩
              rw [take_any _ he, Bool.or_assoc]
            · obtain ⟨y6', kf', rfl, s8, e8, hk8⟩ := hP
              rw [List.length_map, List.take_length] at hk8
              refine ⟨some (nI c), y6', kf', rfl, (s5.trans (sameX s7)).trans s8, e8, hk8.congr fun e => ?_⟩
              rw [take_any _ hc, decide_eq_true c1', c2, Bool.true_and, Bool.true_and, Bool.or_assoc]
              congr 1
              congr 1
              refine Bool.eq_iff_iff.mpr ⟨fun z => ?_, fun z => ?_⟩
              · obtain ⟨e2, h1, h2⟩ := List.any_eq_true.mp z
                rw [hes, upTo_mem] at h1
                rw [of_decide_eq_true h2]
                exact h1.2
              · refine List.any_eq_true.mpr ⟨e, ?_, by simp⟩
                rw [hes, upTo_mem]
                exact ⟨(RE_le (by omega) z).2, z⟩
          · rw [c2, Bool.and_false]
        · have : ¬ c < l.length := fun z => by
            have := of_decide_eq_false c1
            omega
          rw [decide_eq_false this, Bool.false_and]
      · obtain ⟨y5, y6, kf, rfl, s5, e5, hk5⟩ := hP
        rw [List.length_map, List.take_length] at hk5
        have hS : ∀ e, (decide (e = b) || cs.any fun c => decide (c < l.length) && canP k (l.getD b 0) (l.getD c 0) && RE k l (c + 1) e) = RE k l b e := fun e => by
          refine Bool.eq_iff_iff.mpr ?_
          rw [RE_step hbn]
          simp only [Bool.or_eq_true, decide_eq_true_eq, List.any_eq_true, Bool.and_eq_true]
          refine or_congr Iff.rfl ⟨?_, ?_⟩
          · rintro ⟨c, h1, ⟨h2, h3⟩, h4⟩
            rw [hcs, upTo_mem] at h1
            exact ⟨c, h2, h1.2, of_decide_eq_true h3, h4⟩
          · rintro ⟨c, h1, h2, h3, h4⟩
            refine ⟨c, ?_, ⟨h1, decide_eq_true h3⟩, h4⟩
            rw [hcs, upTo_mem]
            exact ⟨by omega, h2⟩
        have hk6 : KS kf (RE k l b) := hk5.congr hS
        obtain ⟨ks, hks, hkl, hsort⟩ := hk6.sorted (N := l.length + 1) fun m hm => (RE_le (by omega) hm).2
        -- ends[begin] = sorted(found)
        refine ⟨_, rfl, g, kf, ks, rfl, .inl e5, hks, by omega, fun ys p hp hs hpn => ?_⟩
        have := hsort ys hp hs
        subst this
        have ed5 : H5 d = some (.dK kvs) := s5 _ _ ndg ed4
        have ndp : d ≠ p := ne_of_none ed5 hpn
        refine ⟨_, rfl, _, rfl, d, _, rfl, DPut.k (k := kI b) (by rw [upd_ne ndp]; exact ed5) (sl_lt (by omega)), ?_⟩
        refine ⟨_, _, _, _, _, rfl, ?_, upd_same, Nat.le_trans (putK_ln _ _ _) (by omega), ?_⟩
        · have s45 : SameX d H3 H5 := fun b o nb e => by
            by_cases z : b = g
            · rw [z, hg] at e
              cases e
            · exact s5 _ _ z (s4 _ _ e)
          exact ((s2.trans s45).trans (sameX (same_upd hpn))).up
        · intro p' h1 h2
          rw [valV_put]
          by_cases z : p' = b
          · subst z
            refine ⟨p, if_pos rfl, ?_⟩
            rw [upd_ne ndp.symm, upd_same, List.map_map]
            rfl
          · obtain ⟨a, ha1, ha2, na1, na2⟩ := hE4 p' (by omega) h2
            refine ⟨a, ?_, ?_⟩
            · rw [if_neg (fun q => z (kI_inj q))]
              exact ha1
            · rw [upd_ne na2]
              exact same_upd hpn _ _ (s5 _ _ na1 ha2)
    · obtain ⟨y3, y4, y5, y6, kvs, rfl, s2, e2, hlen, hE⟩ := hP
      refine ⟨_, rfl, q H2 d kvs (s2.new hd) hd e2 fun p _ hp => hE p ?_ hp⟩
      have : ((l.length : Int) - 1 - -1).toNat = l.length := by omega
      omega
end
end BR
set_option Elab.async false
set_option linter.all false
set_option maxRecDepth 100000
set_option maxHeartbeats 4000000
/-! D6: begun.py: what may be open -/
namespace BR
open PySem PySem.Spec PyProof.Rows L2
/-- what stood stands, but for the objects of a list -/
def SameA (as : List Addr) (H H' : Hp) : Prop := ∀ b o, b ∉ as → H b = some o → H' b = some o
theorem SameA.refl (as : List Addr) (H : Hp) : SameA as H H := fun _ _ _ h => h
theorem SameA.trans {as : List Addr} {H H1 H2 : Hp} (a : SameA as H H1) (b : SameA as H1 H2) : SameA as H H2 := fun c o n h => b c o n (a c o n h)
theorem sameA {as : List Addr} {H H1 : Hp} (a : Same H H1) : SameA as H H1 := fun c o _ h => a c o h
theorem SameA.up {as : List Addr} {H H1 : Hp} {d : Addr} {o : HO} (a : SameA as H H1) (h : d ∈ as) : SameA as H (upd H1 d o) := fun c u n h2 => by
  rw [upd_ne (fun z => n (by rw [z]; exact h))]
  exact a c u n h2
/-- a list of dicts of places -/
def FSt (as : List Addr) (H : Hp) (S : Nat → Nat → Bool) : Prop := ∀ (q : Nat) a, as[q]? = some a → ∃ kv, H a = some (.dK kv) ∧ KS kv (S q)
theorem FSt.congr {as : List Addr} {H : Hp} {S S' : Nat → Nat → Bool} (h : FSt as H S) (e : ∀ q m, S q m = S' q m) : FSt as H S' := fun q a ha => by
  obtain ⟨kv, h1, h2⟩ := h q a ha
  exact ⟨kv, h1, h2.congr (e q)⟩
theorem FSt.same {as : List Addr} {H H' : Hp} {S : Nat → Nat → Bool} (h : FSt as H S) (s : Same H H') : FSt as H' S := fun q a ha => by
  obtain ⟨kv, h1, h2⟩ := h q a ha
  exact ⟨kv, s _ _ h1, h2⟩
theorem nd_at {as : List Addr} (nd : as.Nodup) {i j : Nat} {a : Addr} (h1 : as[i]? = some a) (h2 : as[j]? = some a) : i = j := nd_ix nd h1 h2
theorem FSt.put {as : List Addr} {H : Hp} {S : Nat → Nat → Bool} (h : FSt as H S) (nd : as.Nodup) {q0 : Nat} {a0 : Addr} {kv0 : List (L2.Key × V)} (ha : as[q0]? = some a0) (e : H a0 = some (.dK kv0)) (m : Nat) (v : V) :
    FSt as (upd H a0 (.dK (putK kv0 (kI m) v))) (fun q x => S q x || (decide (q = q0) && decide (x = m))) := fun q a hq => by
  by_cases z : q = q0
  · subst z
    rw [ha] at hq
    have hq := Option.some.inj hq
    subst hq
    obtain ⟨kv, h1, h2⟩ := h q a0 ha
    rw [e] at h1
    cases h1
    refine ⟨_, upd_same, (h2.put m v).congr fun x => ?_⟩
    show (S q x || decide (x = m)) = (S q x || (decide (q = q) && decide (x = m)))
    rw [decide_eq_true rfl, Bool.true_and]
  · obtain ⟨kv, h1, h2⟩ := h q a hq
    have na : a ≠ a0 := fun y => z (nd_at nd hq (by rw [y]; exact ha))
    refine ⟨kv, by rw [upd_ne na]; exact h1, h2.congr fun x => ?_⟩
    show S q x = (S q x || (decide (q = q0) && decide (x = m)))
    rw [decide_eq_false z, Bool.false_and, Bool.or_false]
theorem keys_list {kv : List (L2.Key × V)} {ms : List Nat} (h : kv.map (·.1) = ms.map kI) : (kv.map fun p => kV p.1) = ms.map nI := by
  have h2 : (kv.map fun p => kV p.1) = (kv.map (·.1)).map kV := by rw [List.map_map]; rfl
  rw [h2, h, List.map_map]
  rfl
theorem any_mem {ms : List Nat} {x : Nat} : (ms.any fun y => decide (x = y)) = decide (x ∈ ms) := by
  by_cases h : x ∈ ms
  · rw [decide_eq_true h]
    exact List.any_eq_true.mpr ⟨x, h, by simp⟩
  · rw [decide_eq_false h]
    refine Bool.eq_false_iff.mpr fun z => ?_
    obtain ⟨y, hy, hy2⟩ := List.any_eq_true.mp z
    exact h (of_decide_eq_true hy2 ▸ hy)
section
variable {P : Program} {w : World} {K : PySem.W.Frag} {mg : Str → Option Value} {base : Heap} {f : Addr} {fd : FuncData}
def spOpen : Sp := fun vs H Q _ => ∃ (k : Nat) (l : List Nat), vs = [.int k, .str (Tx l)] ∧ k ≤ 4 ∧ l.length ≤ 40 ∧ ∀ H' D as, Same H H' → H D = none → H' D = some (.lst (as.map V.ref)) → as.length = l.length + 1 → FSt as H' (OB k l (l.length + 1)) → Q (.ref D) H'
theorem sc_open_before : FnScope ["k", "row", "ends", "place", "found", "many", "end"] ["k", "row"] (defScope s_open_before) := ⟨rfl, rfl, rfl, by decide +kernel, rfl, by decide +kernel, by decide +kernel⟩
theorem ok_open_before (T : Txt K mg) (F : FunP K "open_before" "open_before" s_open_before f fd) (g_right_ends : Dk P w K mg base CX0 2 "right_ends" ["k", "row"] spEnds) : FnOk P w K mg base CX0 3 f fd ["k", "row"] spOpen := by
  refine F.ok sc_open_before (fun vs H Q E h => ?_) (fun cdv A outer s H vs Q E hr h => ?_)
  · obtain ⟨k, l, rfl, _⟩ := h
    rfl
  · obtain ⟨k, l, rfl, hk, hl, q⟩ := h
    have hu := hu_of hr
    refine ⟨_, PSs.nox (pss_cons (ps_set (i := 2) sc_open_before.nd rfl (.inl rfl) (g_right_ends.call hr pass0 (pa_cons (pv 0) (pa_cons (pv 1) pa_nil))))
       (pss_cons (ps_setLc (i := 4) (own := [("place", 3)]) (g := (gName 3)) (tt := _) (by rfl) sc_open_before.nd rfl rfl (sw_true rfl rfl rfl (by decide +kernel)) (pi_range1 rfl T.b_range (pa_cons (pe_op op_add (pe_callB call_len_str (by rfl) T.b_len (by decide +kernel) (pa_cons (pv 1) pa_nil)) pe_int) pa_nil)) (blkOk_by (own := [("place", 3)]) (N := ["k", "row", "ends", "place", "found", "many", "end"]) (sc := defScope s_open_before) (by decide +kernel)) (fun _ _ _ _ _ => (pg_name (i := 3) sc_open_before.nd rfl (.inl rfl))) (fun _ _ _ _ _ => pts_nil) (fun _ _ _ _ _ => pe_dnewK))
       (pss_cons (ps_dput hu (pe_ix (show IxR _ (rIxL K) from ix_list) (pv 4) pe_int (fun _ _ => rfl)) pe_int pe_bl rfl)
       (pss_cons (ps_for PassesOwn.never rfl (pi_range1 rfl T.b_range (pa_cons (pe_op op_add (pe_callB call_len_str (by rfl) T.b_len (by decide +kernel) (pa_cons (pv 1) pa_nil)) pe_int) pa_nil)) (pg_name (i := 3) sc_open_before.nd rfl (.inl rfl))
        (pss_cons (ps_for PassesOwn.never rfl (pi_list (pe_callTy (call_list_dK rfl) (by rfl) T.b_list (by decide +kernel) (pa_cons (pe_ix (show IxR _ (rIxL K) from ix_list) (pv 4) (pv 3) (fun _ _ => rfl)) pa_nil))) (pg_name (i := 5) sc_open_before.nd rfl (.inl rfl))
        (pss_one (ps_for PassesOwn.never rfl (pi_list (pe_dget hu (pv 2) (pv 3) (fun _ _ => rfl))) (pg_name (i := 6) sc_open_before.nd rfl (.inl rfl))
        (pss_one (ps_dput hu (pe_ix (show IxR _ (rIxL K) from ix_list) (pv 4) (pv 6) (fun _ _ => rfl)) (pv 5) pe_bl rfl)))))
       (pss_one (ps_if (PW.pt (pw_and (pt_cmpR op_lt (pv 3) (pe_callB call_len_str (by rfl) T.b_len (by decide +kernel) (pa_cons (pv 1) pa_nil)) (nomark _)) (pw_and1 (pt_cmpR op_in_sign (pe_ix ix_str (pv 1) (pv 3) (fun _ _ => rfl)) (pe_op op_add_str (pe_slice sl_str (pe_gS T.c_OPENING) po_none (po_some (pv 0))) (pe_gS T.c_UNKNOWN)) rfl))))
        (pss_one (ps_lock (ps_for PassesOwn.never rfl (pi_keys (pe_ix (show IxR _ (rIxL K) from ix_list) (pv 4) (pv 3) (fun _ _ => rfl))) (pg_name (i := 5) sc_open_before.nd rfl (.inl rfl))
        (pss_one (ps_dput hu (pe_ix (show IxR _ (rIxL K) from ix_list) (pv 4) (pe_op op_add (pv 3) pe_int) (fun _ _ => rfl)) (pe_op op_add (pv 5) pe_int) pe_bl rfl)))))
        pss_nil))))
       (pss_one (ps_ret (pv 4))))))) , ?_⟩
    have hln : (Tx l).length ≤ sizeLine := by rw [Tx_len]; exact sl_le (by omega)
    obtain ⟨n, hn⟩ : ∃ n, n = l.length := ⟨_, rfl⟩
    refine ⟨_, rfl, _, rfl, k, l, rfl, hk, hl, fun H1 d kvs s1 hd e1 hE => ?_⟩
    -- found = [{} for place in range(len(row) + 1)]
    refine ⟨_, rfl, _, rfl, hln, _, _, rfl, rfl, _, rfl, by rw [Tx_len]; omega, by rw [Tx_len]; omega, fun D hD => ?_⟩
    rw [Tx_len]
    refine lc_it walk_range (fun m H' => Same H1 H' ∧ ∃ as : List Addr, H' D = some (.lst (as.map V.ref)) ∧ as.length = m ∧ as.Nodup ∧ (∀ a ∈ as, H1 a = none) ∧ ∀ (t : Nat) a, as[t]? = some a → H' a = some (.dK []))
      ⟨same_upd hD, [], upd_same, rfl, List.nodup_nil, fun a h => (by cases h), fun t a h => by simp at h⟩ (fun _ _ _ _ => trivial) (fun m x H5 H6 hm hP hY => ?_) (fun H2 hP => ?_)
    · obtain ⟨s5, as, eD, la, nd, hn5, ha⟩ := hP
      obtain ⟨rfl, rfl⟩ := hY
      refine ⟨rfl, fun T hT => ⟨as.map V.ref, same_upd hT _ _ eD, by rw [List.length_map]; exact sl_lt (by omega), ?_⟩⟩
      have nTD : D ≠ T := ne_of_none eD hT
      refine ⟨fun c o e => ?_, as ++ [T], ?_, by rw [List.length_append, la]; rfl, ?_, fun a h => ?_, fun t a h => ?_⟩
      · rw [upd_ne (ne_of_none e hD)]
        exact same_upd hT _ _ (s5 _ _ e)
      · rw [upd_same, List.map_append]
        rfl
      · rw [List.nodup_append]
        refine ⟨nd, by simp, fun a h1 b h2 z => ?_⟩
        rw [List.mem_singleton] at h2
        obtain ⟨t, ht⟩ := List.getElem?_of_mem h1
        exact ne_of_none (ha t a ht) hT (z.trans h2)
      · rcases List.mem_append.mp h with h | h
        · exact hn5 a h
        · rw [List.mem_singleton] at h
          subst h
          exact s5.free hT
      · by_cases z : t < m
        · have h2 : as[t]? = some a := by
            rw [List.getElem?_append_left (by omega)] at h
            exact h
          have h3 := ha t a h2
          have naD : a ≠ D := ne_of h3 eD (by intro z; cases z)
          rw [upd_ne naD]
          exact same_upd hT _ _ h3
        · have ht : t = m := by
            have := (List.getElem?_eq_some_iff.mp h).1
            rw [List.length_append, la] at this
            simp at this
            omega
          subst ht
          rw [List.getElem?_append_right (by omega), la, Nat.sub_self] at h
          have : T = a := Option.some.inj h
          subst this
          rw [upd_ne nTD.symm, upd_same]
    · obtain ⟨s2, as, eD, la, nd, hnA, ha⟩ := hP
      have la' : as.length = n + 1 := by omega
      have at_ : ∀ q, q ≤ n → ∃ a, as[q]? = some a := fun q hq => ⟨as[q]'(by omega), by simp [show q < as.length by omega]⟩
      have nDA : D ∉ as := fun h => by
        obtain ⟨t, ht⟩ := List.getElem?_of_mem h
        have := ha t D ht
        rw [eD] at this
        cases this
      have old : ∀ b o, H1 b = some o → b ∉ as := fun b o e h => by
        rw [hnA b h] at e
        cases e
      have e2 : H2 d = some (.dK kvs) := s2 _ _ e1
      have at_v : ∀ q a, as[q]? = some a → (as.map V.ref)[q]? = some (V.ref a) := fun q a h => by rw [List.getElem?_map, h]; rfl
      have F0 : FSt as H2 (fun _ _ => false) := fun q a h => ⟨[], ha q a h, KS.nil⟩
      -- found[0][0] = True
      obtain ⟨a0, ha0⟩ := at_ 0 (Nat.zero_le _)
      refine ⟨_, rfl, D, _, 0, _, rfl, rfl, .inl (.inl eD), atI_nat (j := 0) (at_v 0 a0 ha0), a0, _, rfl, DPut.k (k := kI 0) (ha 0 a0 ha0) (by decide), ?_⟩
      have F1 := (F0.put nd ha0 (ha 0 a0 ha0) 0 (.bl true)).congr (S' := OB k l 0) fun q m => by
        unfold OB
        rw [Bool.false_or]
      -- for place in range(len(row) + 1)
      refine ⟨_, rfl, _, rfl, hln, _, _, rfl, rfl, _, rfl, by rw [Tx_len]; omega, by rw [Tx_len]; omega, ?_⟩
      rw [Tx_len]
      refine for_it walk_range (fun p σ H' => ∃ y3 y5 y6, σ = [some (.int k), some (.str (Tx l)), some (.ref d), y3, some (.ref D), y5, y6] ∧ SameA as H2 H' ∧ FSt as H' (OB k l p))
        ⟨none, none, none, rfl, (SameA.refl as H2).up (List.mem_of_getElem? ha0), F1⟩ (fun _ _ _ _ _ => trivial) (fun p x σ H3 H4 hp hP hY => ?_) (fun σ H3 hP => ?_)
      · obtain ⟨y3, y5, y6, rfl, s3, F3⟩ := hP
        obtain ⟨rfl, hx⟩ := hY
        have hx' : x = nI p := hx.trans (congrArg V.int (Int.zero_add _))
        subst hx'
        clear hx
        have hpn : p ≤ n := by omega
        obtain ⟨ap, hap⟩ := at_ p hpn
        obtain ⟨kvp, ep, kp⟩ := F3 p ap hap
        obtain ⟨ms, hms, nms, mms⟩ := id kp
        have eD4 : H4 D = some (.lst (as.map V.ref)) := s3 _ _ nDA eD
        -- for many in list(found[place])
        refine ⟨_, rfl, _, rfl, D, _, _, _, rfl, rfl, .inl (.inl eD4), atI_nat (at_v p ap hap), ap, kvp, rfl, ep, fun L hL => ⟨L, rfl, ⟨_, .inl (.inl upd_same)⟩, ?_⟩⟩
        rw [keys_list hms]
        obtain ⟨H5, hH5⟩ : ∃ H5, H5 = upd H4 L (.lst (ms.map nI)) := ⟨_, rfl⟩
        have s5 : Same H4 H5 := by rw [hH5]; exact same_upd hL
        have eL5 : H5 L = some (.lst (ms.map nI)) := by rw [hH5]; exact upd_same
        have nLA : L ∉ as := fun h => by
          obtain ⟨t, ht⟩ := List.getElem?_of_mem h
          obtain ⟨kv, h1, _⟩ := F3 t L ht
          rw [hL] at h1
          cases h1
        rw [← hH5]
        clear hH5
        obtain ⟨ae, hv, hae⟩ := hE p (Nat.zero_le _) (by omega)
        obtain ⟨es, hes⟩ : ∃ es, es = upTo (l.length + 1) (RE k l p) := ⟨_, rfl⟩
        rw [← hes] at hae
        refine for_it (walk_list (K := K) (a := L) (xs := ms.map nI)) (fun i σ H' => ∃ y5 y6, σ = [some (.int k), some (.str (Tx l)), some (.ref d), some (nI p), some (.ref D), y5, y6] ∧ SameA as H5 H' ∧ FSt as H' (fun q m => OB k l p q m || ((ms.take i).any fun x => decide (m = x)) && RE k l p q))
          ⟨_, _, rfl, SameA.refl _ _, (F3.same s5).congr fun q m => by simp⟩ (fun i σ H' _ hP => ?_) (fun i x σ H6 H7 hi hP hY => ?_) (fun σ H6 hP => ?_)
        · obtain ⟨_, _, _, s6, _⟩ := hP
          exact .inl (.inl (s6 _ _ nLA eL5))
        · obtain ⟨y5, y6, rfl, s6, F6⟩ := hP
          obtain ⟨rfl, hx⟩ := hY
          rw [List.getElem?_map] at hx
          rw [List.length_map] at hi
          obtain ⟨x0, hx0⟩ : ∃ x0, ms[i]? = some x0 := ⟨ms[i], by simp [hi]⟩
          rw [hx0] at hx
          have hx := (Option.some.inj hx).symm
          subst hx
          have hxp : x0 ≤ p := OB_le ((mms x0).mp (List.mem_of_getElem? hx0))
          have ed7 : H7 d = some (.dK kvs) := s6 _ _ (old _ _ e1) (s5 _ _ (s3 _ _ (old _ _ e1) e2))
          have eae7 : H7 ae = some (.lst (es.map nI)) := s6 _ _ (old _ _ hae) (s5 _ _ (s3 _ _ (old _ _ hae) (s2 _ _ hae)))
          -- for end in ends[place]
          refine ⟨_, rfl, _, rfl, d, _, rfl, dget_k (k := kI p) ed7 hv, ae, rfl, ⟨_, .inl (.inl eae7)⟩, ?_⟩
          refine for_it (walk_list (K := K) (a := ae) (xs := es.map nI)) (fun j σ H' => ∃ y6, σ = [some (.int k), some (.str (Tx l)), some (.ref d), some (nI p), some (.ref D), some (nI x0), y6] ∧ SameA as H7 H' ∧
              FSt as H' (fun q m => (OB k l p q m || ((ms.take i).any fun x => decide (m = x)) && RE k l p q) || ((es.take j).any fun e => decide (q = e)) && decide (m = x0)))
            ⟨_, rfl, SameA.refl _ _, F6.congr fun q m => by simp⟩ (fun j σ H' _ hP => ?_) (fun j x σ H8 H9 hj hP hY => ?_) (fun σ H8 hP => ?_)
          · obtain ⟨_, _, s8, _⟩ := hP
            exact .inl (.inl (s8 _ _ (old _ _ hae) eae7))
          · obtain ⟨y6', rfl, s8, F8⟩ := hP
            obtain ⟨rfl, hx⟩ := hY
            rw [List.getElem?_map] at hx
            rw [List.length_map] at hj
            obtain ⟨e, he⟩ : ∃ e, es[j]? = some e := ⟨es[j], by simp [hj]⟩
            rw [he] at hx
            have hx := (Option.some.inj hx).symm
            subst hx
            have hee := List.mem_of_getElem? he
            rw [hes, upTo_mem] at hee
            obtain ⟨aq, haq⟩ := at_ e (by omega)
            obtain ⟨kvq, eq, kq⟩ := F8 e aq haq
            have hlen : kvq.length ≤ p + 1 := kq.len fun m hm => by
              simp only [Bool.or_eq_true, Bool.and_eq_true, List.any_eq_true, decide_eq_true_eq] at hm
              rcases hm with (h | ⟨⟨y, h1, h2⟩, _⟩) | ⟨_, h⟩
              · have := OB_le h
                omega
              · have h3 := OB_le ((mms y).mp (List.mem_of_mem_take h1))
                omega
              · omega
            have eD9 : H9 D = some (.lst (as.map V.ref)) := s8 _ _ nDA (s6 _ _ nDA (s5 _ _ eD4))
            refine ⟨_, rfl, _, rfl, D, _, _, _, rfl, rfl, .inl (.inl eD9), atI_nat (at_v e aq haq), _, rfl, aq, _, rfl, DPut.k (k := kI x0) eq (sl_lt (by omega)), ?_⟩
            refine ⟨_, rfl, s8.up (List.mem_of_getElem? haq), (F8.put nd haq eq x0 _).congr fun q m => ?_⟩
            rw [take_any _ he, Bool.and_or_distrib_right, Bool.or_assoc]
          · obtain ⟨y6', rfl, s8, F8⟩ := hP
            refine ⟨_, _, rfl, s6.trans s8, F8.congr fun q m => ?_⟩
            rw [List.length_map, List.take_length, take_any _ hx0, Bool.or_assoc, Bool.and_or_distrib_right]
            congr 1
            congr 1
            rw [any_mem, Bool.and_comm]
            congr 1
            refine Bool.eq_iff_iff.mpr ?_
            rw [decide_eq_true_iff, hes, upTo_mem]
            exact ⟨fun z => z.2, fun z => ⟨(RE_le (by omega) z).2, z⟩⟩
        · obtain ⟨y5, y6, rfl, s6, F6⟩ := hP
          have F7 : FSt as H6 (fun q m => OB k l p q m || (OB k l p p m && RE k l p q)) := F6.congr fun q m => by
            rw [List.length_map, List.take_length, any_mem]
            congr 1
            congr 1
            refine Bool.eq_iff_iff.mpr ?_
            rw [decide_eq_true_iff]
            exact mms m
          clear F6
          have s7 : SameA as H2 H6 := (s3.trans (sameA s5)).trans s6
          have stay : (decide (p < l.length) && isOpn k (l.getD p 0)) = false → FSt as H6 (OB k l (p + 1)) := fun z => F7.congr fun q m => by
            show _ = ((OB k l p q m || (OB k l p p m && RE k l p q)) || (decide (q = p + 1) && (decide (p < l.length) && isOpn k (l.getD p 0)) && decide (1 ≤ m) && OB k l p p (m - 1)))
            rw [z, Bool.and_false, Bool.false_and, Bool.false_and, Bool.or_false]
          -- if place < len(row) and row[place] in OPENING[:k] + UNKNOWN
          refine ⟨_, rfl, _, rfl, _, rfl, hln, _, _, rfl, rfl, _, rfl, ?_⟩
          rw [Tx_len]
          refine iteB (fun c1 => ?_) (fun c1 => iteF ⟨_, _, _, rfl, s7, stay ?_⟩)
          · have c1' : p < l.length := by
              have := of_decide_eq_true c1
              omega
            refine ⟨_, rfl, _, rfl, _, _, _, rfl, rfl, hln, at_tx (getD_at c1'), _, rfl, _, rfl, _, rfl, by decide, _, _, rfl, rfl, by rw [cutS_to, Tx_len, Tx_len]; exact sl_le (by simp [lOP]; omega), _, _, rfl, rfl, _, rfl, ?_⟩
            rw [cutS_to, Tx_app, Tx_cps]
            refine iteB (fun c2 => ?_) (fun c2 => ⟨_, _, _, rfl, s7, stay ?_⟩)
            · -- for many in found[place]
              obtain ⟨kv2, ep2, kp2⟩ := F7 p ap hap
              obtain ⟨m2, hm2, nm2, mm2⟩ := kp2.congr (S' := OB k l p p) fun m => by
                show (OB k l p p m || (OB k l p p m && RE k l p p)) = OB k l p p m
                cases OB k l p p m <;> rfl
              have napD : D ≠ ap := fun z => nDA (by rw [z]; exact List.mem_of_getElem? hap)
              have eD6 : H6 D = some (.lst (as.map V.ref)) := s7 _ _ nDA eD
              refine ⟨ap, .dK kv2, ep2, trivial, fun od => ?_⟩
              refine ⟨_, rfl, _, rfl, D, _, _, _, rfl, rfl, .inl (.inl (by rw [upd_ne napD]; exact eD6)), atI_nat (at_v p ap hap), ap, od, rfl, .inl ⟨kv2, upd_same, ?_⟩⟩
              have hl2 : kv2.length = m2.length := by
                have := congrArg List.length hm2
                simpa using this
              refine for_it walk_keys (fun i σ H' => ∃ y5, σ = [some (.int k), some (.str (Tx l)), some (.ref d), some (nI p), some (.ref D), y5, y6] ∧ SameA as H6 H' ∧ H' ap = some (.frz od (.dK kv2)) ∧
                  ∀ (q : Nat) a, q ≠ p → as[q]? = some a → ∃ kv, H' a = some (.dK kv) ∧ KS kv (fun m => (OB k l p q m || (OB k l p p m && RE k l p q)) || decide (q = p + 1) && ((m2.take i).any fun x => decide (m = x + 1))))
                ⟨_, rfl, (SameA.refl as H6).up (List.mem_of_getElem? hap), upd_same, fun q a hq ha => ?_⟩ (fun i σ H' _ hP => ?_) (fun i x σ H8 H9 hi hP hY => ?_) (fun σ H8 hP => ?_)
              · obtain ⟨kv, h1, h2⟩ := F7 q a ha
                have na : a ≠ ap := fun z => hq (nd_at nd ha (by rw [z]; exact hap))
                exact ⟨kv, by rw [upd_ne na]; exact h1, h2.congr fun m => by simp⟩
              · obtain ⟨_, _, _, h, _⟩ := hP
                exact h
              · obtain ⟨y5', rfl, s8, e8, F8⟩ := hP
                obtain ⟨rfl, kk, vv, hkk, hx⟩ := hY
                obtain ⟨x0, hx0⟩ : ∃ x0, m2[i]? = some x0 := ⟨m2[i]'(by omega), by simp [show i < m2.length by omega]⟩
                have hkx : kk = kI x0 := by
                  have h1 : (kv2.map (·.1))[i]? = some kk := by rw [List.getElem?_map, hkk]; rfl
                  rw [hm2, List.getElem?_map, hx0] at h1
                  exact (Option.some.inj h1).symm
                subst hkx
                subst hx
                have hxp : x0 ≤ p := OB_le ((mm2 x0).mp (List.mem_of_getElem? hx0))
                obtain ⟨aq, haq⟩ := at_ (p + 1) (by omega)
                obtain ⟨kvq, eq, kq⟩ := F8 (p + 1) aq (by omega) haq
                have hlen : kvq.length ≤ p + 2 := kq.len fun m hm => by
                  simp only [Bool.or_eq_true, Bool.and_eq_true, List.any_eq_true, decide_eq_true_eq] at hm
                  rcases hm with (h | h) | ⟨_, y, h1, h2⟩
                  · have := OB_le h
                    omega
                  · have := OB_le h.1
                    omega
                  · have h3 := OB_le ((mm2 y).mp (List.mem_of_mem_take h1))
                    omega
                have eD9 : H9 D = some (.lst (as.map V.ref)) := s8 _ _ nDA eD6
                refine ⟨_, rfl, _, rfl, _, _, rfl, rfl, D, _, _, _, rfl, rfl, .inl (.inl eD9), atI_nat (j := p + 1) (at_v (p + 1) aq haq), _, rfl, _, _, rfl, rfl, aq, _, rfl, DPut.k (k := kI (x0 + 1)) eq (sl_lt (by omega)), ?_⟩
                have naq : ap ≠ aq := fun z => by
                  have := nd_at nd hap (by rw [z]; exact haq)
                  omega
                refine ⟨_, rfl, s8.up (List.mem_of_getElem? haq), by rw [upd_ne naq]; exact e8, fun q a hq hqa => ?_⟩
                by_cases z : q = p + 1
                · subst z
                  rw [haq] at hqa
                  have hqa := Option.some.inj hqa
                  subst hqa
                  refine ⟨_, upd_same, (kq.put (x0 + 1) _).congr fun m => ?_⟩
                  rw [take_any _ hx0, decide_eq_true rfl, Bool.true_and, Bool.true_and, Bool.or_assoc]
                · obtain ⟨kv, h1, h2⟩ := F8 q a hq hqa
                  have na : a ≠ aq := fun y => z (nd_at nd hqa (by rw [y]; exact haq))
                  refine ⟨kv, by rw [upd_ne na]; exact h1, h2.congr fun m => ?_⟩
                  rw [decide_eq_false z, Bool.false_and, Bool.false_and]
              · obtain ⟨y5', rfl, s8, e8, F8⟩ := hP
                refine ⟨e8, _, _, _, rfl, (s7.trans s8).up (List.mem_of_getElem? hap), fun q a hqa => ?_⟩
                have ho : isOpn k (l.getD p 0) = true := c2
                by_cases z : q = p
                · subst z
                  rw [hap] at hqa
                  have hqa := Option.some.inj hqa
                  subst hqa
                  refine ⟨kv2, upd_same, kp2.congr fun m => ?_⟩
                  show _ = ((OB k l q q m || (OB k l q q m && RE k l q q)) || (decide (q = q + 1) && (decide (q < l.length) && isOpn k (l.getD q 0)) && decide (1 ≤ m) && OB k l q q (m - 1)))
                  rw [decide_eq_false (show ¬ q = q + 1 by omega), Bool.false_and, Bool.false_and, Bool.false_and, Bool.or_false]
                · obtain ⟨kv, h1, h2⟩ := F8 q a z hqa
                  have na : a ≠ ap := fun y => z (nd_at nd hqa (by rw [y]; exact hap))
                  refine ⟨kv, by rw [upd_ne na]; exact h1, h2.congr fun m => ?_⟩
                  show _ = ((OB k l p q m || (OB k l p p m && RE k l p q)) || (decide (q = p + 1) && (decide (p < l.length) && isOpn k (l.getD p 0)) && decide (1 ≤ m) && OB k l p p (m - 1)))
                  rw [hl2, List.take_length, ho, decide_eq_true c1', Bool.true_and, Bool.and_true, Bool.and_assoc]
                  congr 1
                  congr 1
                  refine Bool.eq_iff_iff.mpr ?_
                  simp only [List.any_eq_true, Bool.and_eq_true, decide_eq_true_eq]
                  constructor
                  · rintro ⟨x, hx1, rfl⟩
                    exact ⟨by omega, (mm2 x).mp hx1⟩
                  · rintro ⟨h1, h2⟩
                    exact ⟨m - 1, (mm2 _).mpr h2, by omega⟩
            · have : isOpn k (l.getD p 0) = false := c2
              rw [this, Bool.and_false]
          · have : ¬ p < l.length := fun z => by
              have := of_decide_eq_false c1
              omega
            rw [decide_eq_false this, Bool.false_and]
      · obtain ⟨y3, y5, y6, rfl, s3, F3⟩ := hP
        refine ⟨_, rfl, q H3 D as (fun b o e => s3 b o (old _ _ (s1 _ _ e)) (s2 _ _ (s1 _ _ e))) (s1.free hD) (s3 _ _ nDA eD) (by omega) ?_⟩
        have e : ((l.length : Int) + 1).toNat = l.length + 1 := by omega
        rw [e] at F3
        exact F3
end
end BR
set_option Elab.async false
set_option linter.all false
set_option maxRecDepth 100000
set_option maxHeartbeats 4000000
/-! K1: rules that the layer lacks: a text turned round, repeated, as a list -/
namespace BR
open PySem PySem.Spec PyProof.Rows L2
/-! ### joined texts -/
theorem joinT (a : List Nat) (ys : List (List Nat)) : Txt.join (Tx a) (ys.map Tx) = Tx (TL.joinL a ys) := SX.join_S a ys
theorem joinL_one {f : Nat → Nat} : ∀ l : List Nat, TL.joinL [] (l.map fun c => [f c]) = l.map f
  | [] => rfl
  | [c] => rfl
  | c :: d :: r => by
    show [f c] ++ ([] ++ TL.joinL [] ((d :: r).map fun c => [f c])) = _
    rw [joinL_one (d :: r)]
    rfl
theorem joinT_one (f : Nat → Nat) (l : List Nat) : Txt.join (Tx []) (l.map fun c => Tx [f c]) = Tx (l.map f) := by
  have h := joinT [] (l.map fun c => [f c])
  rw [joinL_one, List.map_map] at h
  exact h
theorem len_ones {f : Nat → Nat} : ∀ l : List Nat, ((l.map fun c => Tx [f c]).map (·.length)).sum = l.length
  | [] => rfl
  | c :: r => by
    rw [List.map_cons, List.map_cons, List.sum_cons, len_ones r]
    show 1 + r.length = r.length + 1
    omega
theorem tyL {K : PySem.W.Frag} {H : Hp} {p : Addr} {xs : List V} (h : H p = some (.lst xs)) : tyV K "list" (.ref p) H := .inl ⟨rfl, xs, .inl (.inl h)⟩
theorem tyD {K : PySem.W.Frag} {H : Hp} {p : Addr} {kvs : List (L2.Key × V)} (h : H p = some (.dK kvs)) : tyV K "dict" (.ref p) H := .inr (.inr (.inl ⟨rfl, .inl ⟨kvs, h⟩⟩))
theorem tyDT {K : PySem.W.Frag} {H : Hp} {p : Addr} {kvs : List (List L2.Key × V)} (h : H p = some (.dT kvs)) : tyV K "dict" (.ref p) H := .inr (.inr (.inl ⟨rfl, .inr ⟨kvs, h⟩⟩))
section
variable {X : Cx}
/-! ### s[::-1] -/
def tRevS (te : TE) : TE := fun σ H Q => te σ H fun x H1 => ∃ l : List Nat, x = .str (Tx l) ∧ l.length ≤ 100000 ∧ Q (.str (Tx l.reverse)) H1
theorem rev_txt (l : List Nat) (u : Tok) : Txt.sliceBy (Tx l) none none (-1, u) = Tx l.reverse := by
  have h := step_rev_list (Tx l) u
  have e : (List.range (Tx l).length).map (fun k => (Tx l).cps.getD ((Tx l).length - 1 - k) 0) = l.reverse := by
    refine List.ext_getElem (by simp [Tx_len]) fun i h1 h2 => ?_
    simp only [List.length_map, List.length_range, Tx_len] at h1
    rw [List.getElem_map, List.getElem_range, List.getElem_reverse, Tx_len]
    show l.toArray.getD (l.length - 1 - i) 0 = _
    simp [Array.getD, show l.length - 1 - i < l.length by omega]
  rw [e] at h
  rw [← Tx_eta (Txt.sliceBy (Tx l) none none (-1, u)), h]
theorem pe_revS {e : Expr} {te : TE} {k : Nat} {p1 p2 p3 pos : Pos} (he : PE X e te) : PE X (.Subscript e (.Slice none none (some (.UnaryOp .USub (.Constant (.int 1) k p1) p2)) p3) pos) (tRevS te) := by
  constructor
  intro pins s σ H Q I h
  apply Subscript_
  refine thn (he.run pins s σ H _ I h) ?_
  rintro v s1 ⟨x, H1, I1, r1, l, rfl, hl, q⟩
  obtain ⟨t, rfl⟩ := r1
  have step : PO X (some (.UnaryOp .USub (.Constant (.int 1) k p1) p2)) (tPart (tUn (rU fun i => .int (-i)) (tC (.int 1)))) := po_some (pe_un un_neg pe_int)
  apply wpAny_Slice
  refine thn (po_none.run pins s1 σ H1 (fun o G => o = none ∧ G = H1) I1 ⟨rfl, rfl⟩) ?_
  rintro a s2 ⟨_, _, I2, pa, rfl, rfl⟩
  refine thn (po_none.run pins s2 σ _ (fun o G => o = none ∧ G = _) I2 ⟨rfl, rfl⟩) ?_
  rintro b s3 ⟨_, _, I3, pb, rfl, rfl⟩
  refine thn (step.run pins s3 σ _ (fun o G => o = some (-1) ∧ G = _) I3 ⟨1, rfl, -1, rfl, rfl, rfl⟩) ?_
  rintro c s4 ⟨_, _, I4, pc, rfl, rfl⟩
  obtain ⟨la, rfl, ea⟩ := IsPart.raw pa
  obtain ⟨lb, rfl, eb⟩ := IsPart.raw pb
  obtain ⟨lc, rfl, ec⟩ := IsPart.raw pc
  obtain rfl : la = none := by cases la <;> first | rfl | cases ea
  obtain rfl : lb = none := by cases lb <;> first | rfl | cases eb
  obtain ⟨u, rfl⟩ : ∃ u, lc = some (-1, u) := by
    cases lc with
    | none => cases ec
    | some z =>
      obtain ⟨z1, z2⟩ := z
      have e1 : z1 = -1 := Option.some.inj ec
      exact ⟨z2, by rw [e1]⟩
  have I5 := I4.kept (h' := s4.heap.push { cls := .type "slice", data := .fields #[partValue none, partValue none, partValue (some (-1, u))] }) (t' := s4.toks) fun b ob z => Heap.get?_push_of_some _ z
  refine tail_any (s := { s4 with heap := s4.heap.push { cls := .type "slice", data := .fields #[partValue none, partValue none, partValue (some (-1, u))] } }) (ops := [.ref s4.heap.objs.size, .str (Tx l) t]) (typeIs_str _ _ _) F.slot_str_getitem.lookup ?_ (by with_unfolding_all rfl)
  refine wpAny_getItem_str_slice (l := none) (u := none) (st := some (-1, u)) ?_ rfl ?_
  · obtain ⟨o, o1, o2, o3⟩ := Heap.IsSliceOf.new s4.heap (partValue none) (partValue none) (partValue (some (-1, u)))
    exact ⟨o, o1, o2, o3⟩
  · have el := rev_txt l u
    unfold Txt.sliceBy at el
    unfold sliceMade
    have hc : ¬ ((((some ((-1 : Int), u)).map (·.1)).getD 1 == 1 && (slicePicked (Tx l) none none (some (-1, u))).length == (Tx l).length) = true) := by
      have z : ((((some ((-1 : Int), u)).map (·.1)).getD 1 == 1)) = false := rfl
      rw [z, Bool.false_and]
      decide
    rw [if_neg hc] at el ⊢
    have e2 : (⟨((slicePicked (Tx l) none none (some (-1, u))).filterMap ((Tx l).cps[·]?)).toArray⟩ : Str) = Tx l.reverse := el
    rw [e2]
    refine ⟨by rw [Tx_len, List.length_reverse]; exact sl_le hl, .str (Tx l.reverse), _, I5.tok _, ⟨_, rfl⟩, q⟩
/-! ### text * int -/
def rMulS : R2 := fun x y H Q => ∃ (l : List Nat) (n : Nat), x = .str (Tx l) ∧ y = .int n ∧ n ≤ 100000 ∧ l.length * n ≤ 100000 ∧ Q (.str (Tx (List.replicate n l).flatten)) H
theorem rep_fold (a : Array Nat) : ∀ (n : Nat) (b : Array Nat), ((List.replicate n a).foldl (· ++ ·) b).toList = b.toList ++ (List.replicate n a.toList).flatten
  | 0, b => by simp
  | n + 1, b => by
    rw [List.replicate_succ, List.foldl_cons, rep_fold a n, List.replicate_succ, List.flatten_cons, Array.toList_append, List.append_assoc]
theorem op_mulS : OpR X (binaryOp .Mult) rMulS := by
  intro pins s σ H x y v u Q I rx ry h
  obtain ⟨l, n, rfl, rfl, hn, hl, q⟩ := h
  obtain ⟨t, rfl⟩ := rx
  obtain ⟨t2, rfl⟩ := ry
  have hlen : (Tx l).length = l.length := Tx_len l
  refine PySem.P.mul_str ?_ (fun h1 h2 => ?_) (fun h1 h2 => ?_) ?_
  · have h1 : ¬ (n : Int) < -(2 ^ 63 : Int) := by omega
    have h2 : ¬ (n : Int) ≥ 2 ^ 63 := by omega
    rw [decide_eq_false h1, decide_eq_false h2]
    rfl
  · rw [hlen]
    have hn1 : 1 ≤ n := by omega
    have hll : l.length ≤ 100000 := Nat.le_trans (Nat.le_mul_of_pos_right _ hn1) hl
    intro hgt
    have hd : (100000 : Int) ≤ (2 ^ 63 - 1) / (n : Int) := by
      apply Int.le_ediv_of_mul_le (by omega)
      omega
    omega
  · show decide _ = false
    rw [hlen]
    apply decide_eq_false
    have e1 : (n : Int).toNat = n := by simp
    rw [e1]
    have : (100000 : Nat) ≤ sizeLine := by decide
    omega
  · by_cases h0 : (n : Int) < 1
    · rw [if_pos h0]
      obtain rfl : n = 0 := by omega
      exact ⟨by decide, .str (Tx []), H, I.tok _, ⟨_, rfl⟩, by simpa using q⟩
    · rw [if_neg h0]
      by_cases h1 : ((n : Int) == 1 || (Tx l).length == 0) = true
      · rw [if_pos h1]
        refine ⟨.str (Tx l), H, I, ⟨_, rfl⟩, ?_⟩
        have e : (List.replicate n l).flatten = l := by
          rw [hlen] at h1
          rcases (Bool.or_eq_true _ _).mp h1 with z | z
          · have z1 : n = 1 := by
              have := eq_of_beq z
              omega
            rw [z1]
            simp
          · have z1 : l = [] := List.length_eq_zero_iff.mp (eq_of_beq z)
            rw [z1]
            simp
        rw [e] at q
        exact q
      · rw [if_neg h1]
        have e0 : (⟨(List.replicate (n : Int).toNat (Tx l).cps).foldl (· ++ ·) #[]⟩ : Str) = Tx (List.replicate n l).flatten := by
          have f := rep_fold (Tx l).cps n #[]
          have e1 : (n : Int).toNat = n := by simp
          rw [e1]
          show (⟨_⟩ : Str) = ⟨_⟩
          congr 1
          apply Array.toList_inj.mp
          rw [f]
          simp [Tx]
        rw [e0]
        refine ⟨?_, .str (Tx (List.replicate n l).flatten), H, I.tok _, ⟨_, rfl⟩, q⟩
        rw [Tx_len, List.length_flatten, List.map_replicate, List.sum_replicate_nat]
        refine sl_le ?_
        rw [Nat.mul_comm]
        exact hl
/-! ### list(text) -/
theorem call_listS (hc : X.calm = true) : CallR X (.type "list") (fun xs H Q => ∃ l : List Nat, xs = [.str (Tx l)] ∧ l.length ≤ 100000 ∧ ∀ p, H p = none → Q (.ref p) (upd H p (.lst (l.map fun c => V.str (Tx [c]))))) := by
  intro pins s σ H xs us Q I r h
  obtain ⟨l, rfl, hl, q⟩ := h
  obtain ⟨u, rfl, rx⟩ := vals1 r
  obtain ⟨t, rfl⟩ := rx
  have hz : (Tx l).cps.size ≤ sizeLine := by
    show l.toArray.size ≤ _
    rw [List.size_toArray]
    exact sl_le hl
  refine PySem.call_list_str (I.ok.hd hc) (Tx l) t (fun h' tk acc c' hk e' hi => ?_) hz
  have hsz : acc.toList.length = l.length := by
    rw [Array.length_toList, hi.1]
    show l.toArray.size = _
    simp
  have hv : Vals (l.map fun c => V.str (Tx [c])) acc.toList := by
    have e : (l.map fun c => V.str (Tx [c])) = (List.range acc.toList.length).map fun j => V.str (Tx [l.getD j 0]) := by
      rw [hsz]
      refine List.ext_getElem (by simp) fun i h1 h2 => ?_
      rw [List.length_map] at h1
      simp [List.getD_eq_getElem?_getD, h1]
    rw [e]
    refine vals_of_get acc.toList _ fun j u hj => ?_
    obtain ⟨c, t2, hc2, rfl⟩ := hi.2 j u (by rw [← hj, Array.getElem?_toList])
    have hc3 : l[j]? = some c := by
      have z : (Tx l).cps[j]? = l[j]? := by simp [Tx]
      rw [← z]
      exact hc2
    refine ⟨t2, ?_⟩
    rw [List.getD_eq_getElem?_getD, hc3]
    rfl
  refine ⟨.ref s.heap.objs.size, upd H s.heap.objs.size (.lst (l.map fun c => V.str (Tx [c]))), I.laid hk (Nat.le_refl _) (show ObjOk X.prog X.w _ _ _ (.lst _) from ⟨?_, acc.toList, c', hv, ?_⟩), rfl, q _ (I.hok.fresh (Nat.le_refl _))⟩
  · rw [List.length_map]
    exact sl_le hl
  · rw [Array.toArray_toList]
    exact e'
/-! ### loops that draw new tuples -/
/-- n tuples, the i-th as R says -/
def ItT (n : Nat) (G : Hp → Prop) (R : Nat → List V → Prop) : It :=
  ⟨fun i H => i < n ∧ G H, fun i H v H' => ∃ T xs, v = .ref T ∧ H T = none ∧ H' = upd H T (.tup xs) ∧ R i xs, fun i H => i = n ∧ G H⟩
theorem walk_T {n : Nat} {G : Hp → Prop} {R : Nat → List V → Prop} : Walk (ItT n G R) n G (fun i H v H' => ∃ T xs, v = .ref T ∧ H T = none ∧ H' = upd H T (.tup xs) ∧ R i xs) :=
  ⟨fun _ _ hi g => ⟨hi, g⟩, fun _ g => ⟨rfl, g⟩, fun _ _ _ _ _ _ y => y⟩
theorem turn_T {P : Program} {w : World} {K : PySem.W.Frag} {elts : List Expr} {kk : Nat} {tpos : Pos} {z : Addr} {fp wr : List Addr} {tn : Nat → Heap → Prop} {n : Nat} {G : Hp → Prop} {R : Nat → List V → Prop} (hmem : z ∈ fp) (hsub : ∀ b ∈ wr, b ∈ fp)
    (hobj : ∀ i h, tn i h → ∀ b ∈ fp, ∃ o, h.get? b = some o ∧ ∀ v, o.data ≠ .cell v) (hkeep : ∀ i h h', tn i h → (∀ b ∈ fp, ∀ o, h.get? b = some o → h'.get? b = some o) → tn i h')
    (hself : ∀ (A : Around) (i : Nat) (s : Shared) (Q : Value → Shared → Prop) (E : Value → Shared → Prop), tn i s.heap → Q (.ref z) s → wpAny (model P w) A (pyIter (.ref z)) Q E s)
    (hW : ∀ (X : Cx), X.prog = P → X.w = w → X.K = K → X.calm = true → ∀ (i : Nat) (pins : List (Addr × Obj)) (s : Shared) (σ : L2.St) (H : Hp), Inv X pins σ H s → G H → tn i s.heap →
      ∃ PV St Mid fp', WalksT P w X.A z fp' wr n PV St Mid ∧ (∀ j h, St j h → tn j h) ∧ St i s.heap ∧ ∀ i vals, PV i vals → ∃ xs, Vals xs vals.toList ∧ xs.length ≤ sizeLine ∧ R i xs) :
    Turn P w K (.Tuple elts kk tpos) (ItT n G R) fp z tn where
  mem := hmem
  obj := hobj
  keep := hkeep
  item := by
    intro X hP hw hK hc i pins s σ H E I hf st hg
    obtain ⟨hi, g⟩ := hg
    obtain ⟨PV, St, Mid, fp', W, Wt, Ws, Wv⟩ := hW X hP hw hK hc i pins s σ H I g st
    subst hP hw hK
    refine W.item i s _ _ hi Ws fun T vals h1 tk pv hT1 isT mid kp => ?_
    obtain ⟨xs, hv, hz, hR⟩ := Wv i vals pv
    refine ⟨_, rfl, W.go elts kk tpos i T { s with heap := h1, toks := tk } _ _ mid fun h2 st2 kp2 => ?_⟩
    have nT : T ∉ wr := W.apart i T _ mid
    have isT2 : h2.IsTuple T vals := by
      obtain ⟨o, ho, r⟩ := isT
      exact ⟨o, kp2 T o nT ho, r⟩
    have obj2 : ObjOk X.prog X.w (upd H T (.tup xs)) h2 T (.tup xs) := ⟨hz, vals.toList, hv, by rw [Array.toArray_toList]; exact isT2⟩
    have I2 : Inv X pins σ (upd H T (.tup xs)) { s with heap := h2, toks := tk } :=
      I.turnedNew (ch := wr) (fun b ob hb q => kp2 b ob hb (kp b ob hb q)) (fun b hb => hf b (hsub b hb)) hT1 obj2
    refine ⟨.ref T, _, I2, rfl, ⟨T, xs, rfl, I.hok.fresh hT1, rfl, hR⟩, Wt _ _ st2, fun b hb => ?_⟩
    obtain ⟨ob, hob, _⟩ := hobj i s.heap st b hb
    have hlt : b < T := Nat.lt_of_lt_of_le (Heap.lt_size hob) hT1
    rw [upd_ne (Nat.ne_of_lt hlt)]
    exact (hf b hb).1
  done := by
    intro X hP hw hK hc i pins s σ H E I hf st hg
    obtain ⟨rfl, g⟩ := hg
    obtain ⟨PV, St, Mid, fp', W, Wt, Ws, Wv⟩ := hW X hP hw hK hc i pins s σ H I g st
    subst hP hw hK
    exact W.done s _ _ Ws fun h1 tk kp => ⟨rfl, I.turnedL (ch := wr) kp fun b hb => hf b (hsub b hb)⟩
  self := hself
theorem txt_at {l : List Nat} {i c : Nat} (h : (Tx l).cps[i]? = some c) : l[i]? = some c := by
  have e : (Tx l).cps[i]? = l[i]? := by simp [Tx]
  rw [← e]
  exact h
theorem vals_two {x y : V} {u v : Value} (h1 : RelV x u) (h2 : RelV y v) : Vals [x, y] (#[u, v] : Array Value).toList := .cons h1 (.cons h2 .nil)
theorem two_le : ([V.non, V.non] : List V).length ≤ sizeLine := by decide
/-! ### zip of a text and of a text or a list -/
theorem strIter_obj {h : Heap} {it : Addr} {x : Str} {t : Tok} {ty : String} {i : Nat} (st : h.IsStrIter it ty x t i) : ∃ o, h.get? it = some o ∧ ∀ v, o.data ≠ .cell v := by
  obtain ⟨o, e, c, d⟩ := st
  exact ⟨o, e, fun v z => by rw [d] at z; cases z⟩
theorem lstIter_obj {h : Heap} {it a : Addr} {i : Nat} (st : h.IsListIter it a i) : ∃ o, h.get? it = some o ∧ ∀ v, o.data ≠ .cell v := by
  obtain ⟨o, e, _, d⟩ := st
  exact ⟨o, e, fun v z => by rw [d] at z; cases z⟩
theorem zip_out {N c : Nat} {fp2 : List Nat} (h1 : ∀ b ∈ fp2, b = N + 1 ∨ b < N) (hc : N ≤ c) (hn : c ≠ N + 1) : c ∉ fp2 := fun hm => by
  have := h1 c hm
  omega
theorem zip_sep {N : Nat} {fp2 : List Addr} (h0 : N + 1 ∈ fp2) (h1 : ∀ b ∈ fp2, b = N + 1 ∨ b < N) : ZipSep2 (N + 4) (N + 2) (N + 3) N (N + 1) [N] fp2 :=
  ⟨show (N + 2 : Nat) ≠ N + 4 by omega, show (N + 3 : Nat) ≠ N + 4 by omega, show (N + 2 : Nat) ≠ N + 3 by omega, show (N + 2 : Nat) ≠ N by omega, by simp, by simp, by simp, show (N + 2 : Nat) ≠ N + 1 by omega, h0,
    zip_out (c := N + 4) h1 (by omega) (by omega), zip_out (c := N + 3) h1 (by omega) (by omega), zip_out (c := N) h1 (by omega) (by omega), by simp⟩
/-- the state of a zip of a text and of another thing -/
def ZipSt (N : Nat) (a : List Nat) (t : Tok) (S2 : Nat → Heap → Prop) (i : Nat) (h : Heap) : Prop :=
  IsZip h (N + 4) (N + 2) (N + 3) .none ∧ IsTupOf2 h (N + 2) (.ref N) (.ref (N + 1)) ∧ (∃ a1 a2, IsTupOf2 h (N + 3) a1 a2) ∧ h.IsStrIter N (strIterType (Tx a)) (Tx a) t i ∧ S2 i h
theorem zip_five {N c : Nat} (h : c ∈ [N + 4, N + 2, N + 3, N, N + 1]) : c = N + 4 ∨ c = N + 2 ∨ c = N + 3 ∨ c = N ∨ c = N + 1 := by simpa using h
theorem zipSt_obj {N : Nat} {a : List Nat} {t : Tok} {S2 : Nat → Heap → Prop} (h2 : ∀ i h, S2 i h → ∃ o, h.get? (N + 1) = some o ∧ ∀ v, o.data ≠ .cell v) (i : Nat) (h : Heap) (st : ZipSt N a t S2 i h) :
    ∀ b ∈ [N + 4, N + 2, N + 3, N, N + 1], ∃ o, h.get? b = some o ∧ ∀ v, o.data ≠ .cell v := fun c hc => by
  obtain ⟨y1, y2, ⟨x, y, y3⟩, y4, y5⟩ := st
  rcases zip_five hc with e | e | e | e | e
  · rw [e]
    exact ⟨_, y1, fun v q => nomatch q⟩
  · rw [e]
    exact ⟨_, y2, fun v q => nomatch q⟩
  · rw [e]
    exact ⟨_, y3, fun v q => nomatch q⟩
  · rw [e]
    exact strIter_obj y4
  · rw [e]
    exact h2 i h y5
theorem zipSt_keep {N : Nat} {a : List Nat} {t : Tok} {S2 : Nat → Heap → Prop} (h2 : ∀ i h h', S2 i h → (∀ o, h.get? (N + 1) = some o → h'.get? (N + 1) = some o) → S2 i h') (i : Nat) (h h' : Heap) (st : ZipSt N a t S2 i h)
    (k : ∀ b ∈ [N + 4, N + 2, N + 3, N, N + 1], ∀ o, h.get? b = some o → h'.get? b = some o) : ZipSt N a t S2 i h' := by
  obtain ⟨y1, y2, ⟨x, y, y3⟩, ⟨o4, y4, r4⟩, y5⟩ := st
  exact ⟨k _ (by simp) _ y1, k _ (by simp) _ y2, ⟨x, y, k _ (by simp) _ y3⟩, ⟨o4, k _ (by simp) _ y4, r4⟩, h2 i h h' y5 (k _ (by simp))⟩
/-- zip's begin: the loop's iterator has come -/
theorem zip_pie {tg : Expr} {pins : List (Addr × Obj)} {σ : L2.St} {H : Hp} {R : It → Hp → Prop} {s : Shared} {a : List Nat} {t : Tok} {v : Value} {o2 : Obj} {H2 : Heap → Prop} {S2 : Nat → Heap → Prop} {J : It} {E : Value → Shared → Prop} (I : Inv X pins σ H s) (B2 : Begins v o2 H2) (h2 : H2 s.heap)
    (hS : ∀ h', h'.get? (s.heap.objs.size + 1) = some o2 → S2 0 h') (T : Turn X.prog X.w X.K tg J [s.heap.objs.size + 4, s.heap.objs.size + 2, s.heap.objs.size + 3, s.heap.objs.size, s.heap.objs.size + 1] (s.heap.objs.size + 4) (ZipSt s.heap.objs.size a t S2)) (q : R J H) :
    wpAny (model X.prog X.w) X.A (call (.type "zip") [.str (Tx a) t, v]) (fun v s1 => wpAny (model X.prog X.w) X.A (pyIter v) (PIE X pins σ tg R) E s1) E s := by
  refine zip_begins2 (begins_text (Tx a) t) B2 trivial h2 fun h' z1 z2 z3 z4 z5 z6 z7 => wpAny_pyIter_zip z1 ?_
  have I2 : Inv X pins σ H { s with heap := h' } := I.kept (t' := s.toks) z7
  refine ⟨_, _, _, J, H, rfl, I2, T, ⟨z1, z2, ⟨_, _, z3⟩, ⟨_, z4, rfl, rfl⟩, hS _ z5⟩, fun c hc => ?_, q⟩
  have hle : s.heap.objs.size ≤ c := by
    rcases zip_five hc with e | e | e | e | e <;> rw [e]
    · exact Nat.le_add_right _ _
    · exact Nat.le_add_right _ _
    · exact Nat.le_add_right _ _
    · exact Nat.le_refl _
    · exact Nat.le_add_right _ _
  obtain ⟨f1, f2, f3, f4, f5⟩ := I.fpOk hle (I.hok.fresh hle)
  exact ⟨f1, f2, f3, f4, f5⟩
theorem zip_wr {N b : Nat} (hb : b ∈ [N + 4, N + 3, N, N + 1]) : b ∈ [N + 4, N + 2, N + 3, N, N + 1] := by
  have : b = N + 4 ∨ b = N + 3 ∨ b = N ∨ b = N + 1 := by simpa using hb
  rcases this with e | e | e | e <;> rw [e] <;> simp
def rZipSS (a b : List Nat) : Nat → List V → Prop := fun i xs => ∃ c d, a[i]? = some c ∧ b[i]? = some d ∧ xs = [.str (Tx [c]), .str (Tx [d])]
def iZipSS (ta : TA) : TI := fun σ H R => ta σ H fun vs H1 => ∃ a b : List Nat, vs = [.str (Tx a), .str (Tx b)] ∧ R (ItT (min a.length b.length) (fun _ => True) (rZipSS a b)) H1
theorem turn_zipSS {P : Program} {w : World} {K : PySem.W.Frag} {elts : List Expr} {kk : Nat} {tpos : Pos} {N : Nat} {a b : List Nat} {t t2 : Tok} :
    Turn P w K (.Tuple elts kk tpos) (ItT (min a.length b.length) (fun _ => True) (rZipSS a b)) [N + 4, N + 2, N + 3, N, N + 1] (N + 4) (ZipSt N a t (fun i h => h.IsStrIter (N + 1) (strIterType (Tx b)) (Tx b) t2 i)) := by
  refine turn_T (wr := [N + 4, N + 3, N, N + 1]) (by simp) (fun b hb => zip_wr hb) (zipSt_obj fun i h st => strIter_obj st) (zipSt_keep fun i h h' st k => ?_) (fun A i s Q E st hq => wpAny_pyIter_zip st.1 hq) (fun X hP hw hK hc i pins s σ H I _ st => ?_)
  · obtain ⟨o, ho, r⟩ := st
    exact ⟨o, k _ ho, r⟩
  · subst hP hw hK
    have hh : X.A.in1.handled = none := I.ok.hd hc
    have sp := zip_sep (N := N) (fp2 := [N + 1]) (by simp) (fun b hb => .inl (by simpa using hb))
    have W := WalksT.zipD2 (A := X.A) sp (Draws.text (prog := X.prog) (w := X.w) hh N (Tx a) t) (Draws.text (prog := X.prog) (w := X.w) hh (N + 1) (Tx b) t2)
    have e1 : (Tx a).cps.size = a.length := by simp [Tx]
    have e2 : (Tx b).cps.size = b.length := by simp [Tx]
    rw [e1, e2] at W
    refine ⟨_, _, _, _, W, fun j h st => st, st, fun i vals pv => ?_⟩
    obtain ⟨x1, x2, ⟨c, u, hc1, rfl⟩, ⟨d, u2, hd1, rfl⟩, rfl⟩ := pv
    exact ⟨[.str (Tx [c]), .str (Tx [d])], vals_two ⟨u, rfl⟩ ⟨u2, rfl⟩, two_le, c, d, txt_at hc1, txt_at hd1, rfl⟩
theorem pi_zipSS {e e2 : Expr} {ta : TA} {p pos tpos : Pos} {elts : List Expr} {kk : Nat} (hg : Gl X "zip") (hm : X.mg "zip" = none) (ha : PA X [e, e2] ta)
    (hs : starEach [e, e2] X.env = (false, eval e X.env) :: starEach [e2] X.env := by rfl) (hpl : (backTo pos (starEach [e2] X.env)).any (·.1) = false := by rfl) :
    PI X (.Tuple elts kk tpos) (.Call (.Name "zip" p) [e, e2] [] pos) (iZipSS ta) := by
  refine ⟨fun pins s σ H R I h => ?_⟩
  refine Call_ (ld_blt I hg hm PyProof.Rows.boot_zip (PyProof.Rows.callWith_type1 (thn (ha.run pos pins s σ H _ I h) fun us s1 ⟨vs, H1, I1, r1, q1⟩ => ?_) hs hpl))
  obtain ⟨a, b, rfl, q⟩ := q1
  obtain ⟨u, v, rfl, ru, rv⟩ := vals2 r1
  obtain ⟨t, rfl⟩ := ru
  obtain ⟨t2, rfl⟩ := rv
  exact zip_pie I1 (begins_text (Tx b) t2) trivial (fun h' z => ⟨_, z, rfl, rfl⟩) turn_zipSS q
def rZipSL (a : List Nat) (ys : List V) : Nat → List V → Prop := fun i xs => ∃ c y, a[i]? = some c ∧ ys[i]? = some y ∧ xs = [.str (Tx [c]), y]
def iZipSL (K : PySem.W.Frag) (ta : TA) : TI := fun σ H R => ta σ H fun vs H1 => ∃ (a : List Nat) (b : Addr) (ys : List V), vs = [.str (Tx a), .ref b] ∧ SqL K H1 b ys ∧ R (ItT (min a.length ys.length) (fun H => SqL K H b ys) (rZipSL a ys)) H1
theorem turn_zipSL {P : Program} {w : World} {K : PySem.W.Frag} {elts : List Expr} {kk : Nat} {tpos : Pos} {N b : Nat} {a : List Nat} {ys : List V} {t : Tok} (hb : b < N) :
    Turn P w K (.Tuple elts kk tpos) (ItT (min a.length ys.length) (fun H => SqL K H b ys) (rZipSL a ys)) [N + 4, N + 2, N + 3, N, N + 1] (N + 4) (ZipSt N a t (fun i h => h.IsListIter (N + 1) b i)) := by
  refine turn_T (wr := [N + 4, N + 3, N, N + 1]) (by simp) (fun b hb => zip_wr hb) (zipSt_obj fun i h st => lstIter_obj st) (zipSt_keep fun i h h' st k => st.at fun o e => k o e) (fun A i s Q E st hq => wpAny_pyIter_zip st.1 hq) (fun X hP hw hK hc i pins s σ H I g st => ?_)
  subst hP hw hK
  have hh : X.A.in1.handled = none := I.ok.hd hc
  obtain ⟨its, rv, pl, hz⟩ := I.list g
  have sp := zip_sep (N := N) (fp2 := [N + 1, b]) (by simp) (fun c hc => by
    rcases List.mem_cons.mp hc with e | e
    · exact .inl e
    · rw [List.mem_singleton.mp e]
      exact .inr hb)
  have hne : b ≠ N + 1 := by omega
  have W := WalksT.zipD2 (A := X.A) sp (Draws.text (prog := X.prog) (w := X.w) hh N (Tx a) t) (Draws.list (prog := X.prog) (w := X.w) hh (N + 1) b hne its.toArray)
  have e1 : (Tx a).cps.size = a.length := by simp [Tx]
  have e2 : its.toArray.size = ys.length := by rw [List.size_toArray, rv.length]
  rw [e1, e2] at W
  refine ⟨_, _, _, _, W, fun j h st => ⟨st.1, st.2.1, st.2.2.1, st.2.2.2.1, st.2.2.2.2.1⟩, ⟨st.1, st.2.1, st.2.2.1, st.2.2.2.1, st.2.2.2.2, pl.isList⟩, fun i vals pv => ?_⟩
  obtain ⟨x1, x2, ⟨c, u, hc1, rfl⟩, hx2, rfl⟩ := pv
  have hx3 : its[i]? = some x2 := by simpa using hx2
  have hi : i < ys.length := by
    rw [rv.length]
    exact (List.getElem?_eq_some_iff.mp hx3).1
  obtain ⟨u2, hu2, ru2⟩ := rv.get (List.getElem?_eq_getElem hi)
  obtain rfl : x2 = u2 := Option.some.inj (hx3.symm.trans hu2)
  exact ⟨[.str (Tx [c]), ys[i]], vals_two ⟨u, rfl⟩ ru2, two_le, c, ys[i], txt_at hc1, List.getElem?_eq_getElem hi, rfl⟩
theorem pi_zipSL {e e2 : Expr} {ta : TA} {p pos tpos : Pos} {elts : List Expr} {kk : Nat} (hg : Gl X "zip") (hm : X.mg "zip" = none) (ha : PA X [e, e2] ta)
    (hs : starEach [e, e2] X.env = (false, eval e X.env) :: starEach [e2] X.env := by rfl) (hpl : (backTo pos (starEach [e2] X.env)).any (·.1) = false := by rfl) :
    PI X (.Tuple elts kk tpos) (.Call (.Name "zip" p) [e, e2] [] pos) (iZipSL X.K ta) := by
  refine ⟨fun pins s σ H R I h => ?_⟩
  refine Call_ (ld_blt I hg hm PyProof.Rows.boot_zip (PyProof.Rows.callWith_type1 (thn (ha.run pos pins s σ H _ I h) fun us s1 ⟨vs, H1, I1, r1, q1⟩ => ?_) hs hpl))
  obtain ⟨a, b, ys, rfl, hq, q⟩ := q1
  obtain ⟨u, v, rfl, ru, rv⟩ := vals2 r1
  obtain ⟨t, rfl⟩ := ru
  obtain rfl : v = Value.ref b := rv
  obtain ⟨its, rl, pl, hz⟩ := I1.list hq
  exact zip_pie I1 (begins_list b its.toArray) pl.isList (fun h' z => ⟨_, z, rfl, rfl⟩) (turn_zipSL pl.lt) q
/-! ### enumerate(text) -/
def rEnumS (l : List Nat) : Nat → List V → Prop := fun i xs => ∃ c, l[i]? = some c ∧ xs = [.int (i : Nat), .str (Tx [c])]
def iEnumS (ta : TA) : TI := fun σ H R => ta σ H fun vs H1 => ∃ l : List Nat, vs = [.str (Tx l)] ∧ R (ItT l.length (fun _ => True) (rEnumS l)) H1
theorem pi_enumS {e : Expr} {ta : TA} {p pos tpos : Pos} {elts : List Expr} {kk : Nat} (hg : Gl X "enumerate") (hm : X.mg "enumerate" = none) (ha : PA X [e] ta) (hs : starEach [e] X.env = [(false, eval e X.env)] := by rfl) :
    PI X (.Tuple elts kk tpos) (.Call (.Name "enumerate" p) [e] [] pos) (iEnumS ta) := by
  refine ⟨fun pins s σ H R I h => ?_⟩
  refine Call_ (ld_blt I hg hm boot_enumerate (PyProof.Rows.callWith_type1 (thn (ha.run pos pins s σ H _ I h) fun us s1 ⟨vs, H1, I1, r1, q1⟩ => ?_) hs rfl))
  obtain ⟨l, rfl, q⟩ := q1
  obtain ⟨u, rfl, ru⟩ := vals1 r1
  obtain ⟨t, rfl⟩ := ru
  refine call_enumerate_str fun h' he hi hsz hk => wpAny_pyIter_enum he ?_
  have I2 : Inv X pins σ H1 { s1 with heap := h' } := I1.kept (t' := s1.toks) hk
  have two : ∀ b : Addr, b ∈ [s1.heap.objs.size + 1, s1.heap.objs.size] → b = s1.heap.objs.size + 1 ∨ b = s1.heap.objs.size := fun b hb => by simpa using hb
  refine ⟨s1.heap.objs.size + 1, [s1.heap.objs.size + 1, s1.heap.objs.size], fun i h => (∃ old, IsEnum h (s1.heap.objs.size + 1) s1.heap.objs.size ((i : Nat) : Int) old) ∧ h.IsStrIter s1.heap.objs.size (strIterType (Tx l)) (Tx l) t i, _, H1, rfl, I2,
    turn_T (wr := [s1.heap.objs.size + 1, s1.heap.objs.size]) (by simp) (fun b hb => hb) (fun i h st c hc => ?_) (fun i h h2 st k => ?_) (fun A i s Q E st hq => ?_) (fun Y hP hw hK hc i pins s σ H I _ st => ?_), ⟨⟨_, he⟩, hi⟩, fun c hc => ?_, q⟩
  · obtain ⟨⟨old, y1⟩, y2⟩ := st
    rcases two c hc with e | e
    · rw [e]
      exact ⟨_, y1, fun v q => nomatch q⟩
    · rw [e]
      exact strIter_obj y2
  · obtain ⟨⟨old, y1⟩, ⟨o2, y2, r2⟩⟩ := st
    exact ⟨⟨old, k _ (by simp) _ y1⟩, ⟨o2, k _ (by simp) _ y2, r2⟩⟩
  · obtain ⟨⟨_, y1⟩, _⟩ := st
    exact wpAny_pyIter_enum y1 hq
  · have hh : Y.A.in1.handled = none := I.ok.hd hc
    have W := WalksT.enumFrom (A := Y.A) 0 (Draws.text (prog := X.prog) (w := X.w) hh s1.heap.objs.size (Tx l) t) (s1.heap.objs.size + 1) (Nat.succ_ne_self _) (by simp) (by simp)
    have e1 : (Tx l).cps.size = l.length := by simp [Tx]
    rw [e1] at W
    refine ⟨_, _, _, _, W, fun j h st => ?_, ?_, fun i vals pv => ?_⟩
    · obtain ⟨⟨old, y1⟩, y2⟩ := st
      rw [Int.zero_add] at y1
      exact ⟨⟨old, y1⟩, y2⟩
    · obtain ⟨⟨old, y1⟩, y2⟩ := st
      refine ⟨⟨old, ?_⟩, y2⟩
      rw [Int.zero_add]
      exact y1
    · obtain ⟨t2, x, ⟨c, u, hc1, rfl⟩, rfl⟩ := pv
      exact ⟨[.int (i : Nat), .str (Tx [c])], vals_two ⟨t2, by rw [Int.zero_add]⟩ ⟨u, rfl⟩, two_le, c, txt_at hc1, rfl⟩
  · have hle : s1.heap.objs.size ≤ c := by
      rcases two c hc with e | e <;> rw [e]
      · exact Nat.le_add_right _ _
      · exact Nat.le_refl _
    exact I1.fpOk hle (I1.hok.fresh hle)
end
end BR
set_option Elab.async false
set_option linter.all false
set_option maxRecDepth 100000
set_option maxHeartbeats 4000000
/-! D7: lines.py: partners_of, is_right; begun.py: depths, may_go_on, fewest_more; shapes.py: turned; bynumber.py: is_filling -/
namespace BR
open PySem PySem.Spec PyProof.Rows L2
/-- the places that are open after the first i signs -/
def pm (l : List Nat) : Nat → Option (List Nat)
  | 0 => some []
  | i + 1 => match pm l i with
    | none => none
    | some st => if l.getD i 0 = 63 then none else if opn (l.getD i 0) = true then some (st ++ [i]) else match st.getLast? with
      | none => none
      | some p => if l.getD p 0 = oth (l.getD i 0) then some st.dropLast else none
def isR (l : List Nat) : Bool := decide (pm l l.length = some [])
theorem pm_none {l : List Nat} {i : Nat} (h : pm l i = none) : ∀ j, pm l (i + j) = none
  | 0 => h
  | j + 1 => by
    show pm l (i + j + 1) = none
    unfold pm
    rw [pm_none h j]
theorem isR_no {l : List Nat} {i : Nat} (h : pm l i = none) (hi : i ≤ l.length) : isR l = false := by
  have := pm_none h (l.length - i)
  rw [show i + (l.length - i) = l.length by omega] at this
  unfold isR
  rw [this]
  rfl
theorem pm_lt {l : List Nat} : ∀ {i : Nat} {st : List Nat}, pm l i = some st → ∀ p ∈ st, p < i
  | 0, st, h, p, hp => by
    cases h
    cases hp
  | i + 1, st, h, p, hp => by
    unfold pm at h
    cases e : pm l i with
    | none =>
      rw [e] at h
      cases h
    | some s0 =>
      rw [e] at h
      have ih := pm_lt e
      simp only at h
      split at h
      · cases h
      · split at h
        · cases h
          rcases List.mem_append.mp hp with h1 | h1
          · have := ih p h1
            omega
          · rw [List.mem_singleton.mp h1]
            omega
        · split at h
          · cases h
          · split at h
            · cases h
              have := ih p (List.dropLast_subset _ hp)
              omega
            · cases h
theorem pm_len {l : List Nat} : ∀ {i : Nat} {st : List Nat}, pm l i = some st → st.length ≤ i
  | 0, st, h => by
    cases h
    exact Nat.le_refl _
  | i + 1, st, h => by
    unfold pm at h
    cases e : pm l i with
    | none =>
      rw [e] at h
      cases h
    | some s0 =>
      rw [e] at h
      have ih := pm_len e
      simp only at h
      split at h
      · cases h
      · split at h
        · cases h
          rw [List.length_append, List.length_singleton]
          omega
        · split at h
          · cases h
          · split at h
            · cases h
              rw [List.length_dropLast]
              omega
            · cases h
/-- signs of a line -/
def Sg (l : List Nat) : Prop := ∀ c ∈ l, c = 63 ∨ c ∈ lBR
theorem Sg.of {k : Nat} {l : List Nat} (h : rowBy k l = true) : Sg l := fun c hc => by
  unfold rowBy at h
  have h2 := List.all_eq_true.mp (Bool.and_eq_true_iff.mp h).2 c hc
  have h3 := of_decide_eq_true h2
  rcases List.mem_append.mp h3 with h4 | h4
  · exact .inr (List.mem_of_mem_take h4)
  · exact .inl (List.mem_singleton.mp h4)
theorem Sg.as {l : List Nat} (h : Sg l) : As l := fun c hc => by
  rcases h c hc with e | e
  · omega
  · exact kind_le e
theorem Same.upn {H H1 : Hp} {p : Addr} {o : HO} (s : Same H H1) (h : H p = none) : Same H (upd H1 p o) := fun b x e => by
  rw [upd_ne (ne_of_none e h)]
  exact s b x e
theorem sign_eq {a b : Nat} : decide (V.str (Tx [a]) = V.str (Tx [b])) = decide (a = b) := by
  refine decide_eq_decide.mpr ⟨fun z => ?_, fun z => by rw [z]⟩
  have := Tx_inj (V.str.inj z)
  exact (List.cons.inj this).1
theorem sign_eqA {a b : Nat} : decide (V.str ⟨#[a]⟩ = V.str (Tx [b])) = decide (a = b) := sign_eq
theorem nI_last {st : List Nat} {p : Nat} (h : st.getLast? = some p) : (st.map nI)[(st.map nI).length - 1]? = some (nI p) := by
  rw [List.length_map, List.getElem?_map, ← List.getLast?_eq_getElem?, h]
  rfl
theorem nI_fl {st : List Nat} : ∀ x ∈ st.map nI, Fl x := fun x hx => by
  obtain ⟨a, _, rfl⟩ := List.mem_map.mp hx
  exact .inl ⟨_, rfl⟩
section
variable {P : Program} {w : World} {K : PySem.W.Frag} {mg : Str → Option Value} {base : Heap} {f : Addr} {fd : FuncData}
def spPartners : Sp := fun vs H Q _ => ∃ l : List Nat, vs = [.str (Tx l)] ∧ l.length ≤ 40 ∧ Sg l ∧ ∀ H', Same H H' → (isR l = true → ∀ D, Q (.ref D) H') ∧ (isR l = false → Q .non H')
theorem sc_partners_of : FnScope ["row", "found", "open_ones", "place", "sign"] ["row"] (defScope s_partners_of) := ⟨rfl, rfl, rfl, by decide +kernel, rfl, by decide +kernel, by decide +kernel⟩
theorem ok_partners_of (T : Txt K mg) (F : FunP K "partners_of" "partners_of" s_partners_of f fd) (g_is_opening : Dk P w K mg base CX0 1 "is_opening" ["bracket"] spIsOpening) (g_other_of : Dk P w K mg base CX0 1 "other_of" ["bracket"] spOtherOf) : FnOk P w K mg base CX0 2 f fd ["row"] spPartners := by
  refine F.ok sc_partners_of (fun vs H Q E h => ?_) (fun cdv A outer s H vs Q E hr h => ?_)
  · obtain ⟨l, rfl, _⟩ := h
    rfl
  · obtain ⟨l, rfl, hl, hsg, q⟩ := h
    have hu := hu_of hr
    refine ⟨_, PSs.nox (pss_cons (ps_set (i := 1) sc_partners_of.nd rfl (.inl rfl) (pe_op op_rep (pe_lst (pa_cons pe_int pa_nil)) (pe_callB call_len_str (by rfl) T.b_len (by decide +kernel) (pa_cons (pv 0) pa_nil))))
       (pss_cons (ps_set (i := 2) sc_partners_of.nd rfl (.inl rfl) (pe_lst pa_nil))
       (pss_cons (ps_for PassesOwn.never rfl (pi_enumS (by rfl) T.b_enumerate (pa_cons (pv 0) pa_nil)) (pg_tup (by rfl) (pgs_cons (pg_name (i := 3) sc_partners_of.nd rfl (.inl rfl)) (pgs_cons (pg_name (i := 4) sc_partners_of.nd rfl (.inl rfl)) pgs_nil)))
        (pss_cons (ps_if (pt_cmpR op_eq (pv 4) (pe_gS T.c_UNKNOWN) (nomark _))
        (pss_one (ps_ret pe_non))
        pss_nil)
       (pss_one (ps_if (pt_val (g_is_opening.call hr pass0 (pa_cons (pv 4) pa_nil)))
        (pss_one (ps_expr (pe_bm PySem.F.plainAttrs_list PySem.F.slot_list_append PySem.F.type_list_append mt_append (pv 2) (pa_cons (pv 3) pa_nil))))
        (pss_one (ps_if (PW.pt (pw_or (pt_cmpR (op_eqD hr.units) (pv 2) (pe_lst pa_nil) (nomark _)) (pw_or1 (pt_cmpR op_ne (pe_ix ix_str (pv 0) (pe_ix (show IxR _ (rIxL K) from ix_list) (pv 2) (pe_un un_neg pe_int) (fun _ _ => rfl)) (fun _ _ => rfl)) (g_other_of.call hr pass0 (pa_cons (pv 4) pa_nil)) (nomark _)))))
        (pss_one (ps_ret pe_non))
        (pss_cons (ps_asg (pe_bm0 PySem.F.plainAttrs_list PySem.F.slot_list_pop PySem.F.type_list_pop mt_pop (pv 2)) (pg_sub (pv 1) (pv 3) set_list))
       (pss_one (ps_asg (pv 3) (pg_sub (pv 1) (pe_ix (show IxR _ (rIxL K) from ix_list) (pv 1) (pv 3) (fun _ _ => rfl)) set_list))))))))))
       (pss_cons (ps_if (pt_cmpR (op_neD hr.units) (pv 2) (pe_lst pa_nil) (nomark _))
        (pss_one (ps_ret pe_non))
        pss_nil)
       (pss_one (ps_ret (pv 1))))))) , ?_⟩
    have hln : (Tx l).length ≤ sizeLine := by rw [Tx_len]; exact sl_le (by omega)
    refine ⟨by decide, fun p hp => ⟨_, rfl, _, rfl, hln, p, _, _, rfl, rfl, upd_same, by omega, by rw [Tx_len]; omega, by show 1 * _ ≤ _; rw [Tx_len]; exact sl_le (by omega), fun D hD => ?_⟩⟩
    refine ⟨Nat.zero_le _, fun O hO => ?_⟩
    have hHp : Same H (upd H p (.lst [V.int 0])) := same_upd hp
    have hHD : H D = none := hHp.free hD
    have sD : Same H (upd (upd H p (.lst [V.int 0])) D (.lst (List.replicate (((Tx l).length : Nat) : Int).toNat [V.int 0]).flatten)) := Same.upn hHp hHD
    have hHO : H O = none := sD.free hO
    have nDO : D ≠ O := ne_of_none upd_same hO
    refine ⟨_, rfl, l, rfl, ?_⟩
    refine for_it walk_T (fun i σ H' => ∃ st y3 y4 xs, σ = [some (.str (Tx l)), some (.ref D), some (.ref O), y3, y4] ∧ Same H H' ∧ pm l i = some st ∧ H' O = some (.lst (st.map nI)) ∧ H' D = some (.lst xs) ∧ xs.length = l.length)
      ⟨[], none, none, _, rfl, Same.upn sD hHO, rfl, upd_same, by rw [upd_ne nDO]; exact upd_same, by simp [Tx_len]⟩ (fun _ _ _ _ _ => trivial) (fun i x σ H1 H2 hi hP hY => ?_) (fun σ H1 hP => ?_)
    · obtain ⟨st, y3, y4, xs, rfl, s1, hpm, eO, eD, hxs⟩ := hP
      obtain ⟨T', ys, rfl, hT, rfl, c, hc, rfl⟩ := hY
      refine ⟨T', _, rfl, SqT.of upd_same, rfl, _, _, rfl, _, _, rfl, rfl, ?_⟩
      have hcD : l.getD i 0 = c := by simp [List.getD_eq_getElem?_getD, hc]
      have hcm : c ∈ l := List.mem_of_getElem? hc
      have nT : H T' = none := s1.free hT
      have s2 : Same H (upd H1 T' (.tup [.int (i : Nat), .str (Tx [c])])) := Same.upn s1 nT
      have nOT : O ≠ T' := ne_of_none eO hT
      have nDT : D ≠ T' := ne_of_none eD hT
      have eO2 : (upd H1 T' (.tup [.int (i : Nat), .str (Tx [c])])) O = some (.lst (st.map nI)) := by rw [upd_ne nOT]; exact eO
      have eD2 : (upd H1 T' (.tup [.int (i : Nat), .str (Tx [c])])) D = some (.lst xs) := by rw [upd_ne nDT]; exact eD
      generalize (upd H1 T' (.tup [.int (i : Nat), .str (Tx [c])])) = H3 at s2 eO2 eD2 ⊢
      have hst := pm_lt hpm
      -- sign == UNKNOWN
      refine ⟨_, rfl, rfl, _, rfl, ?_⟩
      rw [sign_eq]
      refine iteB (fun c1 => ?_) (fun c1 => ?_)
      · have e : pm l (i + 1) = none := by
          unfold pm
          rw [hpm]
          show (if l.getD i 0 = 63 then none else _) = none
          rw [if_pos (by rw [hcD]; exact of_decide_eq_true c1)]
        exact (q _ s2).2 (isR_no e hi)
      · have c1' : ¬ c = 63 := of_decide_eq_false c1
        have hcb : c ∈ lBR := (hsg c hcm).resolve_left c1'
        -- is_opening
        refine ⟨_, rfl, c, rfl, hcb, _, rfl, ?_⟩
        refine iteB (fun c2 => ?_) (fun c2 => ?_)
        · have e : pm l (i + 1) = some (st ++ [i]) := by
            unfold pm
            rw [hpm]
            show (if l.getD i 0 = 63 then none else _) = _
            rw [if_neg (by rw [hcD]; exact c1'), if_pos (by rw [hcD]; exact c2)]
          have hstl := pm_len hpm
          refine ⟨_, rfl, tyL eO2, _, rfl, O, _, _, rfl, rfl, eO2, by rw [List.length_map]; exact sl_lt (by omega), ?_⟩
          refine ⟨_, _, _, xs, rfl, Same.upn s2 hHO, e, ?_, by rw [upd_ne nDO]; exact eD2, hxs⟩
          rw [upd_same, List.map_append]
          rfl
        · -- open_ones == [] or row[open_ones[-1]] != other_of(sign)
          refine ⟨_, rfl, Nat.zero_le _, fun p2 hp2 => eqD_nil (.inl (.inl (same_upd hp2 _ _ eO2))) (.inl (.inl upd_same)) nI_fl ⟨_, rfl, ?_⟩⟩
          have s3 : Same H (upd H3 p2 (.lst [])) := Same.upn s2 (s2.free hp2)
          have eO3 : (upd H3 p2 (.lst [])) O = some (.lst (st.map nI)) := same_upd hp2 _ _ eO2
          have eD3 : (upd H3 p2 (.lst [])) D = some (.lst xs) := same_upd hp2 _ _ eD2
          generalize upd H3 p2 (.lst []) = H4 at s3 eO3 eD3 ⊢
          have bad : (∀ p, st.getLast? = some p → l.getD p 0 ≠ oth c) → isR l = false := fun z => by
            have e : pm l (i + 1) = none := by
              unfold pm
              rw [hpm]
              show (if l.getD i 0 = 63 then none else _) = none
              rw [if_neg (by rw [hcD]; exact c1'), if_neg (by rw [hcD, c2]; decide)]
              cases e2 : st.getLast? with
              | none => rfl
              | some p =>
                show (if l.getD p 0 = oth (l.getD i 0) then some st.dropLast else none) = none
                rw [if_neg (by rw [hcD]; exact z p e2)]
            exact isR_no e hi
          refine iteB (fun c3 => ?_) (fun c3 => ?_)
          · refine (q _ s3).2 (bad fun p hp => ?_)
            cases st with
            | nil => cases hp
            | cons a r => cases c3
          · obtain ⟨p0, hp0⟩ : ∃ p, st.getLast? = some p := by
              cases e2 : st.getLast? with
              | none =>
                rw [List.getLast?_eq_none_iff.mp e2] at c3
                cases c3
              | some p => exact ⟨p, rfl⟩
            have hp1 : p0 < i := hst p0 (List.mem_of_getLast? hp0)
            have hp2 : l[p0]? = some (l.getD p0 0) := getD_at (by omega)
            have hne : st.map nI ≠ [] := fun z => by
              rw [List.map_eq_nil_iff.mp z] at hp0
              cases hp0
            have hb2 : (Tx [l.getD p0 0]) = ⟨#[l.getD p0 0]⟩ := rfl
            refine ⟨_, rfl, _, rfl, _, rfl, O, _, _, _, rfl, rfl, .inl (.inl eO3), at_lL (nI_last hp0) hne, _, _, _, rfl, rfl, hln, at_tx hp2, _, rfl, c, rfl, hcb, rfl, ?_⟩
            refine ⟨_, rfl, ?_⟩
            rw [sign_eqA]
            refine iteB (fun c4 => ?_) (fun c4 => ?_)
            · refine (q _ s3).2 (bad fun p hp z => ?_)
              rw [hp0] at hp
              cases hp
              rw [decide_eq_true z] at c4
              cases c4
            · have c4' : l.getD p0 0 = oth c := Decidable.byContradiction fun z => by
                rw [decide_eq_false z] at c4
                cases c4
              have e : pm l (i + 1) = some st.dropLast := by
                unfold pm
                rw [hpm]
                show (if l.getD i 0 = 63 then none else _) = _
                rw [if_neg (by rw [hcD]; exact c1'), if_neg (by rw [hcD, c2]; decide), hp0]
                show (if l.getD p0 0 = oth (l.getD i 0) then some st.dropLast else none) = _
                rw [if_pos (by rw [hcD]; exact c4')]
              have eD5 : (upd H4 O (.lst (st.map nI).dropLast)) D = some (.lst xs) := by rw [upd_ne nDO]; exact eD3
              refine ⟨_, rfl, tyL eO3, O, _, _, rfl, rfl, eO3, nI_last hp0, _, rfl, _, rfl, D, xs, _, i, rfl, rfl, eD5, ixN_n (by omega), ?_⟩
              have hxi : (xs.set i (nI p0))[i]? = some (nI p0) := by
                rw [List.getElem?_set_self (by omega)]
              refine ⟨_, rfl, _, rfl, _, rfl, _, rfl, D, _, _, _, rfl, rfl, .inl (.inl upd_same), atI_nat hxi, D, _, _, p0, rfl, rfl, upd_same, ixN_n (by rw [List.length_set]; omega), ?_⟩
              refine ⟨_, _, _, _, rfl, Same.upn (Same.upn (Same.upn s3 hHO) hHD) hHD, e, ?_, upd_same, by rw [List.length_set, List.length_set]; exact hxs⟩
              rw [upd_ne nDO.symm, upd_ne nDO.symm, upd_same, List.map_dropLast]
    · obtain ⟨st, y3, y4, xs, rfl, s1, hpm, eO, eD, hxs⟩ := hP
      -- open_ones != []
      refine ⟨_, rfl, Nat.zero_le _, fun p2 hp2 => neD_nil (.inl (.inl (same_upd hp2 _ _ eO))) (.inl (.inl upd_same)) nI_fl ⟨_, rfl, ?_⟩⟩
      have s3 : Same H (upd H1 p2 (.lst [])) := Same.upn s1 (s1.free hp2)
      refine iteB (fun c1 => ?_) (fun c1 => ?_)
      · refine (q _ s3).2 ?_
        unfold isR
        rw [hpm]
        refine decide_eq_false fun z => ?_
        cases z
        cases c1
      · refine ⟨_, rfl, (q _ s3).1 ?_ D⟩
        unfold isR
        rw [hpm]
        refine decide_eq_true ?_
        cases st with
        | nil => rfl
        | cons a r => cases c1
def spIsRight : Sp := fun vs H Q _ => ∃ (k : Nat) (l : List Nat), vs = [.int k, .str (Tx l)] ∧ 1 ≤ k ∧ k ≤ 4 ∧ rowBy k l = true ∧ ∀ H', Same H H' → Q (.bl (isR l)) H'
theorem sc_is_right : FnScope ["k", "row"] ["k", "row"] (defScope s_is_right) := ⟨rfl, rfl, rfl, by decide +kernel, rfl, by decide +kernel, by decide +kernel⟩
theorem ok_is_right (T : Txt K mg) (F : FunP K "is_right" "is_right" s_is_right f fd) (g_need_line : Dk P w K mg base CX0 3 "need_line" ["k", "row"] spNeedLine) (g_partners_of : Dk P w K mg base CX0 2 "partners_of" ["row"] spPartners) : FnOk P w K mg base CX0 4 f fd ["k", "row"] spIsRight := by
  refine F.ok sc_is_right (fun vs H Q E h => ?_) (fun cdv A outer s H vs Q E hr h => ?_)
  · obtain ⟨k, l, rfl, _⟩ := h
    rfl
  · obtain ⟨k, l, rfl, h1, h2, hb, q⟩ := h
    refine ⟨_, PSs.nox (pss_cons (ps_expr (g_need_line.call hr pass0 (pa_cons (pv 0) (pa_cons (pv 1) pa_nil))))
       (pss_one (ps_ret (pe_cmpR op_notN (g_partners_of.call hr pass0 (pa_cons (pv 1) pa_nil)) pe_non (nomark _))))) , ?_⟩
    refine ⟨_, rfl, _, rfl, k, l, rfl, h1, h2, (Sg.of hb).as, hb, fun H1 s1 => ⟨_, rfl, l, rfl, rowBy_len hb, Sg.of hb, fun H2 s2 => ?_⟩⟩
    cases e : isR l with
    | true =>
      refine ⟨fun _ D => ⟨rfl, ?_⟩, fun z => by cases z⟩
      have := q H2 (s1.trans s2)
      rw [e] at this
      exact this
    | false =>
      refine ⟨(fun z => by cases z), fun _ => ⟨rfl, ?_⟩⟩
      have := q H2 (s1.trans s2)
      rw [e] at this
      exact this
def spDepths : Sp := fun vs H Q _ => ∃ (k : Nat) (l : List Nat), vs = [.int k, .str (Tx l)] ∧ 1 ≤ k ∧ k ≤ 4 ∧ rowBy k l = true ∧ ∀ H' D, Same H H' → H D = none → H' D = some (.lst ((dpt k l).map nI)) → Q (.ref D) H'
theorem sc_depths : FnScope ["k", "row"] ["k", "row"] (defScope s_depths) := ⟨rfl, rfl, rfl, by decide +kernel, rfl, by decide +kernel, by decide +kernel⟩
theorem ok_depths (T : Txt K mg) (F : FunP K "depths" "depths" s_depths f fd) (g_need_line : Dk P w K mg base CX0 3 "need_line" ["k", "row"] spNeedLine) (g_open_before : Dk P w K mg base CX0 3 "open_before" ["k", "row"] spOpen) : FnOk P w K mg base CX0 4 f fd ["k", "row"] spDepths := by
  refine F.ok sc_depths (fun vs H Q E h => ?_) (fun cdv A outer s H vs Q E hr h => ?_)
  · obtain ⟨k, l, rfl, _⟩ := h
    rfl
  · obtain ⟨k, l, rfl, h1, h2, hb, q⟩ := h
    refine ⟨_, PSs.nox (pss_cons (ps_expr (g_need_line.call hr pass0 (pa_cons (pv 0) (pa_cons (pv 1) pa_nil))))
       (pss_one (ps_ret (pe_callB (call_sortedDI rfl) (by rfl) T.b_sorted (by decide +kernel) (pa_cons (pe_ix (show IxR _ (rIxL K) from ix_list) (g_open_before.call hr pass0 (pa_cons (pv 0) (pa_cons (pv 1) pa_nil))) (pe_un un_neg pe_int) (fun _ _ => rfl)) pa_nil))))) , ?_⟩
    have hl := rowBy_len hb
    refine ⟨_, rfl, _, rfl, k, l, rfl, h1, h2, (Sg.of hb).as, hb, fun H1 s1 => ⟨_, rfl, _, rfl, k, l, rfl, h2, hl, fun H2 D as s2 hD eD la hF => ?_⟩⟩
    obtain ⟨a, ha⟩ : ∃ a, as[as.length - 1]? = some a := ⟨as[as.length - 1]'(by omega), by simp [show as.length - 1 < as.length by omega]⟩
    have hne : as.map V.ref ≠ [] := fun z => by
      rw [List.map_eq_nil_iff.mp z] at la
      cases la
    have hav : (as.map V.ref)[(as.map V.ref).length - 1]? = some (V.ref a) := by
      rw [List.length_map, List.getElem?_map, ha]
      rfl
    refine ⟨_, rfl, D, _, _, _, rfl, rfl, .inl (.inl eD), at_lL hav hne, ?_⟩
    have ha2 : as[l.length]? = some a := by
      rw [la] at ha
      exact ha
    obtain ⟨kv, ekv, hks⟩ := hF l.length a ha2
    obtain ⟨ks, hk1, hk2, hk3⟩ := hks.sorted (N := l.length + 2) fun m hm => by
      have := OB_le hm
      omega
    refine ⟨a, kv, ks, rfl, .inl ekv, hk1, by omega, fun ys p hp hs hn => ?_⟩
    have e := hk3 ys hp hs
    refine q _ p (s1.trans (s2.trans (same_upd hn))) (s1.free (s2.free hn)) ?_
    rw [upd_same, e, List.map_map]
    rfl
theorem nI_inj {a b : Nat} (h : nI a = nI b) : a = b := by
  have := V.int.inj h
  omega
def spMayGo : Sp := fun vs H Q _ => ∃ (k : Nat) (l : List Nat), vs = [.int k, .str (Tx l)] ∧ 1 ≤ k ∧ k ≤ 4 ∧ rowBy k l = true ∧ ∀ H', Same H H' → Q (.bl (!(dpt k l).isEmpty)) H'
theorem sc_may_go_on : FnScope ["k", "row"] ["k", "row"] (defScope s_may_go_on) := ⟨rfl, rfl, rfl, by decide +kernel, rfl, by decide +kernel, by decide +kernel⟩
theorem ok_may_go_on (T : Txt K mg) (F : FunP K "may_go_on" "may_go_on" s_may_go_on f fd) (g_depths : Dk P w K mg base CX0 4 "depths" ["k", "row"] spDepths) : FnOk P w K mg base CX0 5 f fd ["k", "row"] spMayGo := by
  refine F.ok sc_may_go_on (fun vs H Q E h => ?_) (fun cdv A outer s H vs Q E hr h => ?_)
  · obtain ⟨k, l, rfl, _⟩ := h
    rfl
  · obtain ⟨k, l, rfl, h1, h2, hb, q⟩ := h
    refine ⟨_, PSs.nox (pss_one (ps_ret (pe_cmpR (op_neD hr.units) (g_depths.call hr pass0 (pa_cons (pv 0) (pa_cons (pv 1) pa_nil))) (pe_lst pa_nil) (nomark _)))) , ?_⟩
    refine ⟨_, rfl, _, rfl, k, l, rfl, h1, h2, hb, fun H1 D s1 hD eD => ⟨Nat.zero_le _, fun p hp => neD_nil (.inl (.inl (same_upd hp _ _ eD))) (.inl (.inl upd_same)) nI_fl ?_⟩⟩
    have := q _ (Same.upn (o := .lst []) s1 (s1.free hp))
    rw [List.isEmpty_map]
    exact this
def spMore : Sp := fun vs H Q _ => ∃ (k : Nat) (l : List Nat), vs = [.int k, .str (Tx l)] ∧ 1 ≤ k ∧ k ≤ 4 ∧ rowBy k l = true ∧ ∀ H', Same H H' → Q (match dpt k l with | [] => .non | m :: _ => nI m) H'
theorem sc_fewest_more : FnScope ["k", "row", "found"] ["k", "row"] (defScope s_fewest_more) := ⟨rfl, rfl, rfl, by decide +kernel, rfl, by decide +kernel, by decide +kernel⟩
theorem ok_fewest_more (T : Txt K mg) (F : FunP K "fewest_more" "fewest_more" s_fewest_more f fd) (g_depths : Dk P w K mg base CX0 4 "depths" ["k", "row"] spDepths) : FnOk P w K mg base CX0 5 f fd ["k", "row"] spMore := by
  refine F.ok sc_fewest_more (fun vs H Q E h => ?_) (fun cdv A outer s H vs Q E hr h => ?_)
  · obtain ⟨k, l, rfl, _⟩ := h
    rfl
  · obtain ⟨k, l, rfl, h1, h2, hb, q⟩ := h
    refine ⟨_, PSs.nox (pss_cons (ps_set (i := 2) sc_fewest_more.nd rfl (.inl rfl) (g_depths.call hr pass0 (pa_cons (pv 0) (pa_cons (pv 1) pa_nil))))
       (pss_one (ps_ret (pe_ifExp (pt_cmpR (op_neD hr.units) (pv 2) (pe_lst pa_nil) (nomark _)) (pe_ix (show IxR _ (rIxL K) from ix_list) (pv 2) pe_int (fun _ _ => rfl)) pe_non)))) , ?_⟩
    refine ⟨_, rfl, _, rfl, k, l, rfl, h1, h2, hb, fun H1 D s1 hD eD => ⟨_, rfl, Nat.zero_le _, fun p hp => neD_nil (.inl (.inl (same_upd hp _ _ eD))) (.inl (.inl upd_same)) nI_fl ⟨_, rfl, ?_⟩⟩⟩
    have q2 := q _ (Same.upn (o := .lst []) s1 (s1.free hp))
    have eD2 := same_upd (o := .lst []) hp _ _ eD
    cases e : dpt k l with
    | nil =>
      rw [e] at q2
      exact iteF q2
    | cons m r =>
      rw [e] at q2 eD2
      exact iteT ⟨_, rfl, D, _, _, _, rfl, rfl, .inl (.inl eD2), atI_nat (j := 0) (by rfl), q2⟩
/-- the row turned round -/
def trn (l : List Nat) : List Nat := l.reverse.map fun c => if c = 63 then c else oth c
def spTurned : Sp := fun vs H Q _ => ∃ (k : Nat) (l : List Nat), vs = [.int k, .str (Tx l)] ∧ 1 ≤ k ∧ k ≤ 4 ∧ rowBy k l = true ∧ ∀ H', Same H H' → Q (.str (Tx (trn l))) H'
theorem sc_turned : FnScope ["k", "row", "sign"] ["k", "row"] (defScope s_turned) := ⟨rfl, rfl, rfl, by decide +kernel, rfl, by decide +kernel, by decide +kernel⟩
theorem ok_turned (T : Txt K mg) (F : FunP K "turned" "turned" s_turned f fd) (g_need_line : Dk P w K mg base CX0 3 "need_line" ["k", "row"] spNeedLine) (g_other_of : Dk P w K mg base CX0 1 "other_of" ["bracket"] spOtherOf) : FnOk P w K mg base CX0 4 f fd ["k", "row"] spTurned := by
  refine F.ok sc_turned (fun vs H Q E h => ?_) (fun cdv A outer s H vs Q E hr h => ?_)
  · obtain ⟨k, l, rfl, _⟩ := h
    rfl
  · obtain ⟨k, l, rfl, h1, h2, hb, q⟩ := h
    refine ⟨_, PSs.nox (pss_cons (ps_expr (g_need_line.call hr pass0 (pa_cons (pv 0) (pa_cons (pv 1) pa_nil))))
       (pss_one (ps_ret (pe_join pe_str (pe_lc (own := [("sign", 2)]) (g := (gName 2)) (tt := _) (by rfl) sc_turned.nd (pi_str (pe_revS (pv 1))) (blkOk_by (own := [("sign", 2)]) (N := ["k", "row", "sign"]) (sc := defScope s_turned) (by decide +kernel)) (fun _ _ _ _ _ => (pg_name (i := 2) sc_turned.nd rfl (.inl rfl))) (fun _ _ _ _ _ => pts_nil) (fun _ _ _ _ _ => (pe_ifExp (pt_cmpR op_eq (pv 2) (pe_gS T.c_UNKNOWN) (nomark _)) (pv 2) (g_other_of.call hr pass0 (pa_cons (pv 2) pa_nil))))))))) , ?_⟩
    have hl := rowBy_len hb
    have hsg := Sg.of hb
    refine ⟨_, rfl, _, rfl, k, l, rfl, h1, h2, hsg.as, hb, fun H1 s1 => ?_⟩
    refine ⟨⟨_, rfl⟩, _, rfl, l, rfl, by omega, Tx l.reverse, rfl, fun D hD => ?_⟩
    have hz : (Tx l.reverse).cps.size = l.length := by simp [Tx]
    refine lcF walk_str (fun _ => true) (fun i => .str (Tx [if l.reverse.getD i 0 = 63 then l.reverse.getD i 0 else oth (l.reverse.getD i 0)])) hD (by omega) (fun _ _ => trivial) (fun i x H2 H3 hi s2 y N hN => ?_) (fun H2 s2 e2 => ?_)
    · obtain ⟨rfl, c, hc, rfl⟩ := y
      have hc2 := txt_at hc
      have hd : l.reverse.getD i 0 = c := by simp [List.getD_eq_getElem?_getD, hc2]
      have hcm : c ∈ l := List.mem_reverse.mp (List.mem_of_getElem? hc2)
      have hN2 := hN _ (Same.refl _)
      rw [if_pos rfl, hd] at hN2
      refine ⟨rfl, _, rfl, rfl, _, rfl, ?_⟩
      rw [sign_eqA]
      refine iteB (fun c1 => ⟨_, rfl, ?_⟩) (fun c1 => ⟨_, rfl, c, rfl, (hsg c hcm).resolve_left (of_decide_eq_false c1), ?_⟩)
      · rw [if_pos (of_decide_eq_true c1)] at hN2
        exact hN2
      · rw [if_neg (of_decide_eq_false c1)] at hN2
        exact hN2
    · rw [hz, ← List.length_reverse, lcV_filter (p := fun _ => true) (v := fun c => .str (Tx [if c = 63 then c else oth c]))] at e2
      have e3 : (l.reverse.filter fun _ => true) = l.reverse := List.filter_eq_self.mpr fun _ _ => rfl
      rw [e3] at e2
      refine ⟨Tx [], D, l.reverse.map fun c => Tx [if c = 63 then c else oth c], rfl, rfl, .inl (.inl (.inl (by rw [List.map_map]; exact e2))), ?_, ?_⟩
      · rw [len_ones (f := fun c => if c = 63 then c else oth c), List.length_map, List.length_reverse]
        show l.length + l.length * 0 ≤ _
        omega
      · rw [joinT_one fun c => if c = 63 then c else oth c]
        exact q _ (s1.trans s2)
theorem none_left (p : Nat → Bool) : ∀ r : List Nat, (r.filter fun i => !p i).isEmpty = r.all p
  | [] => rfl
  | a :: r => by
    have ih := none_left p r
    cases z : p a with
    | true =>
      rw [List.filter_cons_of_neg (by rw [z]; decide), ih, List.all_cons, z]
      rfl
    | false =>
      rw [List.filter_cons_of_pos (by rw [z]; rfl), List.all_cons, z]
      rfl
/-- is it a right filling of the row -/
def isF (k : Nat) (l m : List Nat) : Bool := rowBy k m && decide (m.length = l.length) && !decide (63 ∈ m) && (List.range l.length).all (fun i => letB (l.getD i 0) (m.getD i 0)) && isR m
def spFilling : Sp := fun vs H Q _ => ∃ (k : Nat) (l m : List Nat), vs = [.int k, .str (Tx l), .str (Tx m)] ∧ 1 ≤ k ∧ k ≤ 4 ∧ rowBy k l = true ∧ As m ∧ m.length ≤ 10000 ∧ ∀ H', Same H H' → Q (.bl (isF k l m)) H'
theorem sc_is_filling : FnScope ["k", "row", "filling", "sign", "bracket"] ["k", "row", "filling"] (defScope s_is_filling) := ⟨rfl, rfl, rfl, by decide +kernel, rfl, by decide +kernel, by decide +kernel⟩
theorem ok_is_filling (T : Txt K mg) (F : FunP K "is_filling" "is_filling" s_is_filling f fd) (g_is_row_by : Dk P w K mg base CX0 2 "is_row_by" ["k", "thing"] spIsRowBy) (g_is_right : Dk P w K mg base CX0 4 "is_right" ["k", "row"] spIsRight) (g_lets : Dk P w K mg base CX0 1 "lets" ["sign", "bracket"] spLets) :
    FnOk P w K mg base CX0 5 f fd ["k", "row", "filling"] spFilling := by
  refine F.ok sc_is_filling (fun vs H Q E h => ?_) (fun cdv A outer s H vs Q E hr h => ?_)
  · obtain ⟨k, l, m, rfl, _⟩ := h
    rfl
  · obtain ⟨k, l, m, rfl, h1, h2, hb, has, hml, q⟩ := h
    have hl := rowBy_len hb
    refine ⟨_, PSs.nox (pss_cons (ps_if (PW.pt (pw_or (pt_not (pt_val (g_is_row_by.call hr pass0 (pa_cons (pv 0) (pa_cons (pv 2) pa_nil))))) (pw_or (pt_cmpR op_ne (pe_callB call_len_str (by rfl) T.b_len (by decide +kernel) (pa_cons (pv 2) pa_nil)) (pe_callB call_len_str (by rfl) T.b_len (by decide +kernel) (pa_cons (pv 1) pa_nil)) (nomark _)) (pw_or1 (pt_cmpR op_in_sign (pe_gS T.c_UNKNOWN) (pv 2) rfl)))))
        (pss_one (ps_ret pe_bl))
        pss_nil)
       (pss_cons (ps_if (pt_cmpR (op_neD hr.units) (pe_lc (own := [("sign", 3), ("bracket", 4)]) (g := (gTup _ 2 (gCons (gName 3) (gCons (gName 4) gNil)))) (tt := _) (by rfl) sc_is_filling.nd (pi_zipSS (by rfl) T.b_zip (pa_cons (pv 1) (pa_cons (pv 2) pa_nil))) (blkOk_by (own := [("sign", 3), ("bracket", 4)]) (N := ["k", "row", "filling", "sign", "bracket"]) (sc := defScope s_is_filling) (by decide +kernel)) (fun _ _ _ _ _ => (pg_tup (by rfl) (pgs_cons (pg_name (i := 3) sc_is_filling.nd rfl (.inl rfl)) (pgs_cons (pg_name (i := 4) sc_is_filling.nd rfl (.inl rfl)) pgs_nil)))) (fun _ _ _ _ _ => pts_one (pt_not (pt_val (g_lets.call hr pass0 (pa_cons (pv 3) (pa_cons (pv 4) pa_nil)))))) (fun _ _ _ _ _ => pe_int)) (pe_lst pa_nil) (nomark _))
        (pss_one (ps_ret pe_bl))
        pss_nil)
       (pss_one (ps_ret (g_is_right.call hr pass0 (pa_cons (pv 0) (pa_cons (pv 2) pa_nil))))))) , ?_⟩
    refine ⟨_, rfl, _, rfl, k, m, rfl, h2, has, hml, fun H1 s1 => ⟨_, rfl, ?_⟩⟩
    cases c1 : rowBy k m with
    | false =>
      have := q _ s1
      unfold isF at this
      rw [c1] at this
      exact this
    | true =>
      have hm := rowBy_len c1
      refine iteF ⟨_, rfl, _, rfl, by rw [Tx_len]; exact sl_le (by omega), _, rfl, _, rfl, by rw [Tx_len]; exact sl_le (by omega), rfl, _, rfl, ?_⟩
      rw [Tx_len, Tx_len]
      refine iteB (fun c2 => ?_) (fun c2 => ?_)
      · have e : isF k l m = false := by
          unfold isF
          have z : decide (m.length = l.length) = false := decide_eq_false fun z => by
            rw [z, decide_eq_true rfl] at c2
            cases c2
          rw [z, Bool.and_false, Bool.false_and, Bool.false_and, Bool.false_and]
        have := q _ s1
        rw [e] at this
        exact this
      · have hmn : m.length = l.length := Decidable.byContradiction fun z => by
          rw [decide_eq_false fun y => z (by have := V.int.inj y; omega)] at c2
          cases c2
        refine ⟨_, rfl, 63, Tx m, rfl, rfl, _, rfl, ?_⟩
        rw [Tx_cps]
        refine iteB (fun c3 => ?_) (fun c3 => ?_)
        · have e : isF k l m = false := by
            unfold isF
            rw [c3, Bool.not_true, Bool.and_false, Bool.false_and, Bool.false_and]
          have := q _ s1
          rw [e] at this
          exact this
        · refine ⟨_, rfl, _, rfl, l, m, rfl, fun D hD => ?_⟩
          refine lcF walk_T (fun i => !letB (l.getD i 0) (m.getD i 0)) (fun _ => .int 1) hD (by rw [hmn, Nat.min_self]; omega) (fun _ _ => trivial) (fun i x H2 H3 hi s2 y N hN => ?_) (fun H2 s2 e2 => ?_)
          · obtain ⟨T', xs, rfl, hT, rfl, c, d, hc, hd, rfl⟩ := y
            have hcD : l.getD i 0 = c := by simp [List.getD_eq_getElem?_getD, hc]
            have hdD : m.getD i 0 = d := by simp [List.getD_eq_getElem?_getD, hd]
            refine ⟨T', _, rfl, SqT.of upd_same, rfl, _, _, rfl, _, _, rfl, rfl, rfl, _, rfl, _, rfl, c, d, rfl, fun H4 s4 => ⟨_, rfl, ?_⟩⟩
            have hN2 := hN _ ((same_upd hT).trans s4)
            rw [hcD, hdD] at hN2
            exact iteB (fun z => by rw [if_pos z] at hN2; exact hN2) (fun z => by rw [z, if_neg (by decide)] at hN2; exact hN2)
          · have e0 : (H2 D = some (.lst (lcV l.length (fun i => !letB (l.getD i 0) (m.getD i 0)) fun _ => .int 1))) := by
              rw [hmn, Nat.min_self] at e2
              exact e2
            have e1 : (lcV l.length (fun i => !letB (l.getD i 0) (m.getD i 0)) fun _ => V.int 1).isEmpty = (List.range l.length).all fun i => letB (l.getD i 0) (m.getD i 0) := by
              unfold lcV
              rw [List.isEmpty_map]
              exact none_left (fun i => letB (l.getD i 0) (m.getD i 0)) _
            have s3 := s1.trans s2
            refine ⟨Nat.zero_le _, fun p hp => neD_nil (.inl (.inl (same_upd hp _ _ e0))) (.inl (.inl upd_same)) (fun x hx => ?_) ⟨_, rfl, ?_⟩⟩
            · obtain ⟨_, _, rfl⟩ := List.mem_map.mp hx
              exact .inl ⟨1, rfl⟩
            · have s4 : Same H (upd H2 p (.lst [])) := s3.trans (same_upd hp)
              have ef : isF k l m = (((List.range l.length).all fun i => letB (l.getD i 0) (m.getD i 0)) && isR m) := by
                unfold isF
                rw [c1, hmn, decide_eq_true rfl, c3]
                rfl
              rw [e1]
              cases e5 : (List.range l.length).all fun i => letB (l.getD i 0) (m.getD i 0) with
              | false =>
                have := q _ s4
                rw [ef, e5] at this
                exact iteT this
              | true =>
                refine iteF ⟨_, rfl, _, rfl, k, m, rfl, h1, h2, c1, fun H5 s5 => ?_⟩
                have := q _ (s4.trans s5)
                rw [ef, e5] at this
                exact this
end
end BR
set_option Elab.async false
set_option linter.all false
set_option maxRecDepth 100000
set_option maxHeartbeats 4000000
/-! M4: the fillings by number; plain. -/
namespace BR
theorem drop_at {l : List Nat} {p : Nat} (h : p < l.length) : l.drop p = l.getD p 0 :: l.drop (p + 1) := by
  rw [List.drop_eq_getElem_cons h]
  simp [List.getD_eq_getElem?_getD, h]
/-- what the top of the closed tables tells, by the closing place -/
theorem Rn_from {k κ : Nat} {l s : List Nat} {b : Nat} (hb : b ≤ l.length) :
    Rn k (κ :: s) (l.drop b) = sumK (l.length - b) fun t => if letB (l.getD (b + t) 0) (br (2 * κ + 1)) = true then Wd k l b (b + t) * Rn k s (l.drop (b + t + 1)) else 0 := by
  rw [Rn_first k _ _ (Nat.le_refl _) κ s, Sp3_range, List.length_drop]
  refine sumK_congr fun t ht => ?_
  have e1 : (l.drop b).take t = sl l b (b + t) := by
    unfold sl
    rw [Nat.add_sub_cancel_left]
  have e2 : (l.drop b).getD t 0 = l.getD (b + t) 0 := by
    rw [List.getD_eq_getElem?_getD, List.getElem?_drop, List.getD_eq_getElem?_getD]
  rw [e1, e2, List.drop_drop]
  show Wd k l b (b + t) * lN _ _ * _ = _
  unfold lN
  split
  · rw [Nat.mul_one]
    rfl
  · rw [Nat.mul_zero, Nat.zero_mul]
theorem Rn_step {k p : Nat} {l s : List Nat} (h : p < l.length) : Rn k s (l.drop p) = (sumK k fun κ => lN (l.getD p 0) (br (2 * κ)) * Rn k (κ :: s) (l.drop (p + 1))) + match s with
    | [] => 0
    | κ :: s' => lN (l.getD p 0) (br (2 * κ + 1)) * Rn k s' (l.drop (p + 1)) := by
  rw [drop_at h]
  cases s <;> rfl
/-- how many fillings go on with the bracket c at the place p, s open -/
def wW (k : Nat) (l s : List Nat) (p c : Nat) : Nat :=
  if letB (l.getD p 0) c = true then (if opn c = true then Rn k (idx c / 2 :: s) (l.drop (p + 1)) else match s with
    | [] => 0
    | κ :: s' => if κ = idx c / 2 then Rn k s' (l.drop (p + 1)) else 0) else 0
theorem kSet_succ : ∀ j, j < 4 → kSet (j + 1) = kSet j ++ [br (2 * j), br (2 * j + 1)] := by decide
theorem br_even : ∀ j, j < 4 → opn (br (2 * j)) = true ∧ idx (br (2 * j)) / 2 = j := by decide
theorem br_odd : ∀ j, j < 4 → opn (br (2 * j + 1)) = false ∧ idx (br (2 * j + 1)) / 2 = j := by decide
theorem wW_sum {K p : Nat} {l s : List Nat} : ∀ j, j ≤ 4 → ((kSet j).map (wW K l s p)).sum = (sumK j fun κ => lN (l.getD p 0) (br (2 * κ)) * Rn K (κ :: s) (l.drop (p + 1))) + match s with
    | [] => 0
    | κ :: s' => if κ < j then lN (l.getD p 0) (br (2 * κ + 1)) * Rn K s' (l.drop (p + 1)) else 0
  | 0, _ => by
    cases s with
    | nil => rfl
    | cons a r =>
      show 0 = 0 + if a < 0 then _ else 0
      rw [if_neg (by omega)]
      rfl
  | j + 1, h => by
    have ih := wW_sum (K := K) (p := p) (l := l) (s := s) j (by omega)
    obtain ⟨e1, e2⟩ := br_even j (by omega)
    obtain ⟨e3, e4⟩ := br_odd j (by omega)
    have a1 : wW K l s p (br (2 * j)) = lN (l.getD p 0) (br (2 * j)) * Rn K (j :: s) (l.drop (p + 1)) := by
      unfold wW lN
      rw [e1, e2]
      split
      · rw [if_pos rfl, Nat.one_mul]
      · rw [Nat.zero_mul]
    have a2 : wW K l s p (br (2 * j + 1)) = match s with
        | [] => 0
        | κ :: s' => if κ = j then lN (l.getD p 0) (br (2 * κ + 1)) * Rn K s' (l.drop (p + 1)) else 0 := by
      unfold wW
      rw [e3, e4]
      cases s with
      | nil => simp
      | cons a r =>
        unfold lN
        simp only [Bool.false_eq_true, if_false]
        by_cases z : a = j
        · subst z
          rw [if_pos rfl, if_pos rfl]
          split
          · rw [Nat.one_mul]
          · rw [Nat.zero_mul]
        · rw [if_neg z, if_neg z]
          split <;> rfl
    rw [kSet_succ j (by omega), List.map_append, List.sum_append, ih, sumK_succ]
    show _ + (wW K l s p (br (2 * j)) + (wW K l s p (br (2 * j + 1)) + 0)) = _
    rw [a1, a2]
    cases s with
    | nil => simp
    | cons a r =>
      show _ + (if a < j then _ else 0) + (_ + ((if a = j then _ else 0) + 0)) = _ + (if a < j + 1 then _ else 0)
      by_cases h1 : a < j
      · rw [if_pos h1, if_neg (by omega), if_pos (by omega)]
        omega
      · by_cases h2 : a = j
        · rw [if_neg h1, if_pos h2, if_pos (by omega)]
          omega
        · rw [if_neg h1, if_neg h2, if_neg (by omega)]
          omega
theorem wW_all {k p : Nat} {l s : List Nat} (hk : k ≤ 4) (hp : p < l.length) (hs : ∀ κ ∈ s, κ < k) : ((kSet k).map (wW k l s p)).sum = Rn k s (l.drop p) := by
  rw [wW_sum k hk, Rn_step hp]
  cases s with
  | nil => rfl
  | cons a r =>
    show _ + (if a < k then _ else 0) = _
    rw [if_pos (hs a List.mem_cons_self)]
/-- the first that has more than i, and what is left of i -/
def pick (g : Nat → Nat) : List Nat → Nat → Nat × Nat
  | [], i => (0, i)
  | c :: r, i => if i < g c then (c, i) else pick g r (i - g c)
theorem pick_in {g : Nat → Nat} : ∀ {cs : List Nat} {i : Nat}, i < (cs.map g).sum → (pick g cs i).1 ∈ cs ∧ (pick g cs i).2 < g (pick g cs i).1
  | [], i, h => by simp at h
  | c :: r, i, h => by
    unfold pick
    by_cases z : i < g c
    · rw [if_pos z]
      exact ⟨List.mem_cons_self, z⟩
    · rw [if_neg z]
      rw [List.map_cons, List.sum_cons] at h
      obtain ⟨h1, h2⟩ := pick_in (g := g) (cs := r) (i := i - g c) (by omega)
      exact ⟨List.mem_cons_of_mem _ h1, h2⟩
/-- what is open behind a bracket -/
def push (s : List Nat) (c : Nat) : List Nat := if opn c = true then idx c / 2 :: s else s.tail
theorem wW_next {k p : Nat} {l s : List Nat} {c : Nat} : wW k l s p c ≤ Rn k (push s c) (l.drop (p + 1)) := by
  unfold wW push
  split
  · split
    · exact Nat.le_refl _
    · cases s with
      | nil => exact Nat.zero_le _
      | cons a r =>
        show (if a = idx c / 2 then _ else 0) ≤ _
        split
        · exact Nat.le_refl _
        · exact Nat.zero_le _
  · exact Nat.zero_le _
theorem wW_safe {k p : Nat} {l s : List Nat} {c : Nat} (h : 0 < wW k l s p c) : opn c = true ∨ s ≠ [] := by
  unfold wW at h
  cases e : opn c with
  | true => exact .inl rfl
  | false =>
    rw [e] at h
    refine .inr fun z => ?_
    subst z
    simp at h
theorem kSet_kind {k c : Nat} (hk : k ≤ 4) (h : c ∈ kSet k) : idx c / 2 < k := by
  have h2 : ∀ k, k ≤ 4 → ∀ c ∈ kSet k, idx c / 2 < k := by decide
  exact h2 k hk c h
theorem kSet_br {k c : Nat} (h : c ∈ kSet k) : c ∈ lBR := List.mem_of_mem_take h
theorem push_kind {k c : Nat} {s : List Nat} (hk : k ≤ 4) (hc : c ∈ kSet k) (hs : ∀ κ ∈ s, κ < k) : ∀ κ ∈ push s c, κ < k := by
  intro κ h
  unfold push at h
  split at h
  · rcases List.mem_cons.mp h with e | e
    · rw [e]
      exact kSet_kind hk hc
    · exact hs κ e
  · exact hs κ (List.mem_of_mem_tail h)
theorem push_len (s : List Nat) (c : Nat) : (push s c).length ≤ s.length + 1 := by
  unfold push
  split
  · exact Nat.le_refl _
  · rw [List.length_tail]
    omega
/-- the i-th filling, sign by sign: what is open, what is left of i, what is found -/
def nS (k : Nat) (l : List Nat) (i : Nat) : Nat → List Nat × Nat × List Nat
  | 0 => ([], i, [])
  | p + 1 => (push (nS k l i p).1 (pick (wW k l (nS k l i p).1 p) (kSet k) (nS k l i p).2.1).1, (pick (wW k l (nS k l i p).1 p) (kSet k) (nS k l i p).2.1).2, (nS k l i p).2.2 ++ [(pick (wW k l (nS k l i p).1 p) (kSet k) (nS k l i p).2.1).1])
def nF (k : Nat) (l : List Nat) (i : Nat) : List Nat := (nS k l i l.length).2.2
theorem nS_ok {k : Nat} {l : List Nat} {i : Nat} (hk : k ≤ 4) (hi : i < Wd k l 0 l.length) : ∀ p, p ≤ l.length → (∀ κ ∈ (nS k l i p).1, κ < k) ∧ (nS k l i p).1.length ≤ p ∧ (nS k l i p).2.1 < Rn k (nS k l i p).1 (l.drop p) ∧ (nS k l i p).2.2.length = p ∧ ∀ c ∈ (nS k l i p).2.2, c ∈ kSet k
  | 0, _ => by
    refine ⟨fun κ h => (by cases h), Nat.le_refl _, ?_, rfl, fun c h => (by cases h)⟩
    unfold Wd at hi
    rw [sl_all] at hi
    exact hi
  | p + 1, h => by
    obtain ⟨h1, h2, h3, h4, h5⟩ := nS_ok hk hi p (by omega)
    obtain ⟨q1, q2⟩ := pick_in (g := wW k l (nS k l i p).1 p) (cs := kSet k) (i := (nS k l i p).2.1) (by rw [wW_all hk (by omega) h1]; exact h3)
    refine ⟨push_kind hk q1 h1, Nat.le_trans (push_len _ _) (by omega), Nat.lt_of_lt_of_le q2 wW_next, ?_, fun c hc => ?_⟩
    · show ((nS k l i p).2.2 ++ [_]).length = p + 1
      rw [List.length_append, h4]
      rfl
    · rcases List.mem_append.mp hc with e | e
      · exact h5 c e
      · rw [List.mem_singleton.mp e]
        exact q1
/-- what is open in m ahead of the place p -/
def stk (m : List Nat) : Nat → List Nat
  | 0 => []
  | p + 1 => push (stk m p) (m.getD p 0)
/-- how many fillings come first at the place of c -/
def cB (g : Nat → Nat) (cs : List Nat) (c : Nat) : Nat := ((cs.takeWhile fun d => !decide (d = c)).map g).sum
def nO (k : Nat) (l m : List Nat) : Nat := sumK m.length fun p => cB (wW k l (stk m p) p) (kSet k) (m.getD p 0)
theorem stk_len {m : List Nat} : ∀ {p : Nat} {pl : List Nat}, pm m p = some pl → (stk m p).length = pl.length
  | 0, pl, h => by
    cases h
    rfl
  | p + 1, pl, h => by
    unfold pm at h
    cases e : pm m p with
    | none =>
      rw [e] at h
      cases h
    | some s0 =>
      rw [e] at h
      have ih := stk_len e
      simp only at h
      split at h
      · cases h
      · show (push (stk m p) (m.getD p 0)).length = _
        unfold push
        split at h
        · rename_i h2
          cases h
          rw [if_pos h2, List.length_append, List.length_cons, ih]
          rfl
        · rename_i h2
          rw [if_neg h2]
          split at h
          · cases h
          · split at h
            · cases h
              rw [List.length_tail, List.length_dropLast, ih]
            · cases h
theorem isR_some {m : List Nat} (h : isR m = true) {p : Nat} (hp : p ≤ m.length) : ∃ pl, pm m p = some pl := by
  cases e : pm m p with
  | some pl => exact ⟨pl, rfl⟩
  | none =>
    rw [isR_no e hp] at h
    cases h
theorem isR_safe {m : List Nat} (h : isR m = true) {p : Nat} (hp : p < m.length) : opn (m.getD p 0) = true ∨ stk m p ≠ [] := by
  obtain ⟨pl, e1⟩ := isR_some h (Nat.le_of_lt hp)
  obtain ⟨pl2, e2⟩ := isR_some h (show p + 1 ≤ m.length from hp)
  have hl := stk_len e1
  cases z : opn (m.getD p 0) with
  | true => exact .inl rfl
  | false =>
    refine .inr fun y => ?_
    rw [y] at hl
    have : pl = [] := List.length_eq_zero_iff.mp hl.symm
    subst this
    unfold pm at e2
    rw [e1] at e2
    simp only at e2
    split at e2
    · cases e2
    · rw [z] at e2
      simp at e2
theorem stk_kind {k : Nat} {m : List Nat} (hk : k ≤ 4) (hm : ∀ c ∈ m, c ∈ kSet k) : ∀ p, p ≤ m.length → (∀ κ ∈ stk m p, κ < k) ∧ (stk m p).length ≤ p
  | 0, _ => ⟨fun κ h => (by cases h), Nat.le_refl _⟩
  | p + 1, h => by
    obtain ⟨h1, h2⟩ := stk_kind hk hm p (by omega)
    refine ⟨push_kind hk (hm _ ?_) h1, Nat.le_trans (push_len _ _) (by omega)⟩
    rw [List.getD_eq_getElem?_getD, List.getElem?_eq_getElem (by omega)]
    exact List.getElem_mem _
theorem isF_sigs {k : Nat} {l m : List Nat} (h : isF k l m = true) : m.length = l.length ∧ isR m = true ∧ ∀ c ∈ m, c ∈ kSet k := by
  unfold isF at h
  obtain ⟨h1, h2⟩ := Bool.and_eq_true_iff.mp h
  obtain ⟨h3, _⟩ := Bool.and_eq_true_iff.mp h1
  obtain ⟨h4, h5⟩ := Bool.and_eq_true_iff.mp h3
  obtain ⟨h6, h7⟩ := Bool.and_eq_true_iff.mp h4
  refine ⟨of_decide_eq_true h7, h2, fun c hc => ?_⟩
  unfold rowBy at h6
  have h8 := of_decide_eq_true (List.all_eq_true.mp (Bool.and_eq_true_iff.mp h6).2 c hc)
  rcases List.mem_append.mp h8 with e | e
  · exact e
  · rw [List.mem_singleton.mp e] at hc
    rw [decide_eq_true hc] at h5
    cases h5
end BR
set_option Elab.async false
set_option linter.all false
set_option maxRecDepth 100000
set_option maxHeartbeats 4000000
/-! D8: bynumber.py: Begun -/
namespace BR
open PySem PySem.Spec PyProof.Rows L2
/-- the attributes of a Begun -/
def bF (k : Nat) (l : List Nat) (d op cl : Addr) (p : Nat) : List (Str × V) := [("line", .str (Tx l)), ("brackets", .str (Tx (kSet k))), ("counts", .ref d), ("opened", .ref op), ("closed", .ref cl), ("place", nI p)]
theorem bF_place {k : Nat} {l : List Nat} {d op cl : Addr} {p : Nat} {v : Nat} : putF "place" (nI v) (bF k l d op cl p) = bF k l d op cl v := rfl
/-- a table of the ways to close what is open -/
def clL (k : Nat) (l s : List Nat) : List V := (List.range (l.length + 1)).map fun p => nI (Rn k s (l.drop p))
theorem clL_at {k p : Nat} {l s : List Nat} (h : p ≤ l.length) : (clL k l s)[p]? = some (nI (Rn k s (l.drop p))) := by
  unfold clL
  rw [List.getElem?_map, List.getElem?_range (by omega)]
  rfl
/-- a Begun at b: what is open (the top first), how far it has come; all of it new since H0 -/
structure Bg (H0 H : Hp) (C b : Addr) (k : Nat) (l s : List Nat) (p : Nat) (dx d op cl : Addr) (cs : List Addr) (kvs : List (List L2.Key × V)) : Prop where
  same : Same H0 H
  fb : H0 b = none
  fo : H0 op = none
  fc : H0 cl = none
  eb : H b = some (.ins C dx (bF k l d op cl p))
  ed : H d = some (.dT kvs)
  tab : CTab k l kvs
  eo : H op = some (.lst (s.reverse.map nI))
  ec : H cl = some (.lst (cs.map V.ref))
  len : cs.length = s.length + 1
  no : op ∉ cs
  nc : cl ∉ cs
  oc : op ≠ cl
  at_ : ∀ (j : Nat) a, cs[j]? = some a → H a = some (.lst (clL k l (s.drop (s.length - j))))
def BgE (H0 H : Hp) (C b : Addr) (k : Nat) (l s : List Nat) (p : Nat) : Prop := ∃ dx d op cl cs kvs, Bg H0 H C b k l s p dx d op cl cs kvs
theorem Bg.mono {H0 H H' : Hp} {C b : Addr} {k p : Nat} {l s : List Nat} {dx d op cl : Addr} {cs : List Addr} {kvs : List (List L2.Key × V)} (B : Bg H0 H C b k l s p dx d op cl cs kvs) (h : Same H H') : Bg H0 H' C b k l s p dx d op cl cs kvs :=
  ⟨B.same.trans h, B.fb, B.fo, B.fc, h _ _ B.eb, h _ _ B.ed, B.tab, h _ _ B.eo, h _ _ B.ec, B.len, B.no, B.nc, B.oc, fun j a e => h _ _ (B.at_ j a e)⟩
theorem BgE.mono {H0 H H' : Hp} {C b : Addr} {k p : Nat} {l s : List Nat} (B : BgE H0 H C b k l s p) (h : Same H H') : BgE H0 H' C b k l s p := by
  obtain ⟨dx, d, op, cl, cs, kvs, B⟩ := B
  exact ⟨dx, d, op, cl, cs, kvs, B.mono h⟩
theorem Bg.top {H0 H : Hp} {C b : Addr} {k p : Nat} {l s : List Nat} {dx d op cl : Addr} {cs : List Addr} {kvs : List (List L2.Key × V)} (B : Bg H0 H C b k l s p dx d op cl cs kvs) : ∃ a, (cs.map V.ref)[(cs.map V.ref).length - 1]? = some (V.ref a) ∧ cs.map V.ref ≠ [] ∧ H a = some (.lst (clL k l s)) := by
  have hl := B.len
  refine ⟨cs[s.length]'(by omega), ?_, fun z => ?_, ?_⟩
  · rw [List.length_map, List.getElem?_map, show cs.length - 1 = s.length by omega, List.getElem?_eq_getElem (by omega)]
    rfl
  · rw [List.map_eq_nil_iff.mp z] at hl
    cases hl
  · have := B.at_ s.length _ (List.getElem?_eq_getElem (by omega))
    rw [Nat.sub_self, List.drop_zero] at this
    exact this
/-- facts of the class -/
structure BgT (K : PySem.W.Frag) : Prop where
  cls : Cls K (cA K "Begun")
  no : ∀ f ∈ (["line", "brackets", "counts", "opened", "closed", "place"] : List Str), NoAttr K (cA K "Begun") f
theorem ctab_get {k : Nat} {l : List Nat} {kvs : List (List L2.Key × V)} (h : CTab k l kvs) {i j : Nat} (hij : i ≤ j) (hj : j ≤ l.length) : (valV kvs (ky i j)).getD (.int 0) = nI (Wd k l i j) := by
  rw [h i j (by omega) hj]
  by_cases z : TIn 0 0 i j
  · rw [if_pos z]
    rfl
  · rw [if_neg z]
    have : (j - i) % 2 = 1 := by
      unfold TIn at z
      omega
    rw [Wd_odd hj this]
    rfl
section
variable {P : Program} {w : World} {K : PySem.W.Frag} {mg : Str → Option Value} {base : Heap} {f : Addr} {fd : FuncData}
def spWithin (C : Addr) : Sp := fun vs H Q _ => ∃ (b dx d : Addr) (fs : List (Str × V)) (kvs : List (List L2.Key × V)) (k : Nat) (l : List Nat) (i j : Nat), vs = [.ref b, nI i, nI j] ∧ H b = some (.ins C dx fs) ∧ fs.lookup ("counts" : Str) = some (V.ref d) ∧ H d = some (.dT kvs) ∧ CTab k l kvs ∧ i ≤ j ∧ j ≤ l.length ∧ ∀ H', Same H H' → Q (nI (Wd k l i j)) H'
theorem sc_Begun_ways_within : FnScope ["self", "begin", "end"] ["self", "begin", "end"] (defScope s_Begun_ways_within) := ⟨rfl, rfl, rfl, by decide +kernel, rfl, by decide +kernel, by decide +kernel⟩
theorem ok_Begun_ways_within (T : Txt K mg) (B : BgT K) (F : FunP K "ways_within" "Begun.ways_within" s_Begun_ways_within f fd) : FnOk P w K mg base CX0 1 f fd ["self", "begin", "end"] (spWithin (cA K "Begun")) := by
  refine F.ok sc_Begun_ways_within (fun vs H Q E h => ?_) (fun cdv A outer s H vs Q E hr h => ?_)
  · obtain ⟨b, dx, d, fs, kvs, k, l, i, j, rfl, _⟩ := h
    rfl
  · obtain ⟨b, dx, d, fs, kvs, k, l, i, j, rfl, eb, hf, ed, tab, h1, h2, q⟩ := h
    have hu := hu_of hr
    refine ⟨_, PSs.nox (pss_one (ps_ret (pe_dget2 hu (pe_fld (pv 0) rfl) (pe_tup (pa_cons (pv 1) (pa_cons (pv 2) pa_nil))) pe_int ⟨rfl, rfl, rfl, rfl⟩))) , ?_⟩
    refine ⟨_, rfl, b, _, dx, _, _, rfl, eb, B.cls, B.no _ (by decide), hf, d, rfl, .inr ⟨_, .inl ed⟩, _, rfl, _, rfl, by show 2 ≤ sizeLine; decide, fun T' hT => ?_⟩
    have ed2 : (upd H T' (.tup [nI i, nI j])) d = some (.dT kvs) := same_upd hT _ _ ed
    refine ⟨valV kvs (ky i j), DGet.t (k := ky i j) ed2 upd_same, ?_⟩
    rw [ctab_get tab h1 h2]
    exact q _ (same_upd hT)
theorem Rn_lt {k : Nat} (hk : k ≤ 4) {l s : List Nat} (hl : l.length ≤ 40) (p : Nat) : Rn k s (l.drop p) < 2 ^ 100 := by
  have h := Rn_le k hk (l.drop p) s
  have h3 : 5 ^ (l.drop p).length ≤ 5 ^ 40 := Nat.pow_le_pow_right (by decide) (by rw [List.length_drop]; omega)
  have h4 : (5 : Nat) ^ 40 < 2 ^ 100 := by decide +kernel
  omega
theorem wide_nn {a b : Nat} (ha : a < 2 ^ 100) (hb : b < 2 ^ 100) : CMulW (a : Int) (b : Int) := wide_mul (a := 100) (b := 100) (by simpa using ha) (by simpa using hb) (by decide) (by decide) (by decide)
def wT (k κ : Nat) (l s : List Nat) (j t : Nat) : Nat := if letB (l.getD (j + t) 0) (br (2 * κ + 1)) = true then Wd k l j (j + t) * Rn k s (l.drop (j + t + 1)) else 0
def spFrom (C : Addr) : Sp := fun vs H Q _ => ∃ (H0 : Hp) (b : Addr) (k : Nat) (l s : List Nat) (p κ j : Nat), vs = [.ref b, nI κ, nI j] ∧ BgE H0 H C b k l s p ∧ κ < 4 ∧ k ≤ 4 ∧ l.length ≤ 40 ∧ j ≤ l.length ∧ ∀ H', Same H H' → Q (nI (Rn k (κ :: s) (l.drop j))) H'
theorem sc_Begun_ways_from : FnScope ["self", "kind", "begin", "found", "close"] ["self", "kind", "begin"] (defScope s_Begun_ways_from) := ⟨rfl, rfl, rfl, by decide +kernel, rfl, by decide +kernel, by decide +kernel⟩
theorem ok_Begun_ways_from (T : Txt K mg) (B : BgT K) (F : FunP K "ways_from" "Begun.ways_from" s_Begun_ways_from f fd) (g_lets : Dk P w K mg base CX0 1 "lets" ["sign", "bracket"] spLets)
    (g_Begun_ways_within : Dm P w K mg base CX0 1 (cA K "Begun") "ways_within" ["self", "begin", "end"] (spWithin (cA K "Begun"))) : FnOk P w K mg base CX0 2 f fd ["self", "kind", "begin"] (spFrom (cA K "Begun")) := by
  refine F.ok sc_Begun_ways_from (fun vs H Q E h => ?_) (fun cdv A outer s H vs Q E hr h => ?_)
  · obtain ⟨H0, b, k, l, s, p, κ, j, rfl, _⟩ := h
    rfl
  · obtain ⟨H0, b, k, l, s, p, κ, j, rfl, hBE, hκ, hk, hl, hj, q⟩ := h
    have hu := hu_of hr
    refine ⟨_, PSs.nox (pss_cons (ps_set (i := 3) sc_Begun_ways_from.nd rfl (.inl rfl) pe_int)
       (pss_cons (ps_for PassesOwn.never rfl (pi_range2 rfl T.b_range (pa_cons (pv 2) (pa_cons (pe_callB call_len_str (by rfl) T.b_len (by decide +kernel) (pa_cons (pe_fld (pv 0) rfl) pa_nil)) pa_nil))) (pg_name (i := 4) sc_Begun_ways_from.nd rfl (.inl rfl))
        (pss_one (ps_if (pt_val (g_lets.call hr pass0 (pa_cons (pe_ix ix_str (pe_fld (pv 0) rfl) (pv 4) (fun _ _ => rfl)) (pa_cons (pe_ix ix_str (pe_gS T.c_BRACKETS) (pe_op op_add (pe_op op_mulW pe_int (pv 1)) pe_int) (fun _ _ => rfl)) pa_nil))))
        (pss_one (ps_aug (i := 3) sc_Begun_ways_from.nd rfl (.inl rfl) (pe_op op_mulW (g_Begun_ways_within.meth hr pass0 (pv 0) (pa_cons (pv 2) (pa_cons (pv 4) pa_nil))) (pe_ix (show IxR _ (rIxL K) from ix_list) (pe_ix (show IxR _ (rIxL K) from ix_list) (pe_fld (pv 0) rfl) (pe_un un_neg pe_int) (fun _ _ => rfl)) (pe_op op_add (pv 4) pe_int) (fun _ _ => rfl))) ip_add))
        pss_nil)))
       (pss_one (ps_ret (pv 3))))) , ?_⟩
    have hln : (Tx l).length ≤ sizeLine := by rw [Tx_len]; exact sl_le (by omega)
    obtain ⟨dx, d, op, cl, cs, kvs, hB⟩ := id hBE
    refine ⟨_, rfl, _, rfl, b, _, dx, _, _, rfl, hB.eb, B.cls, B.no _ (by decide), rfl, _, rfl, hln, _, _, rfl, ⟨by omega, by omega, by rw [Tx_len]; omega, by rw [Tx_len]; omega⟩, ?_⟩
    have hn : (((Tx l).length : Nat) - (j : Int)).toNat = l.length - j := by rw [Tx_len]; omega
    rw [hn]
    refine for_it walk_range (fun i σ H' => ∃ y4, σ = [some (.ref b), some (nI κ), some (nI j), some (nI (sumK i (wT k κ l s j))), y4] ∧ Same H H') ⟨none, rfl, Same.refl H⟩ (fun _ _ _ _ _ => trivial) (fun i x σ H1 H2 hi hP hY => ?_) (fun σ H1 hP => ?_)
    · obtain ⟨y4, rfl, s1⟩ := hP
      obtain ⟨rfl, hx⟩ := hY
      have hx' : x = nI (j + i) := hx.trans (congrArg V.int (show (j : Int) + (i : Nat) = ((j + i : Nat) : Int) by omega))
      subst hx'
      clear hx
      have hB1 := hB.mono s1
      have hji : j + i < l.length := by omega
      have hb8 : (2 : Int) * (κ : Int) + 1 = ((2 * κ + 1 : Nat) : Int) := by omega
      refine ⟨_, rfl, b, _, dx, _, _, rfl, hB1.eb, B.cls, B.no _ (by decide), rfl, _, rfl, _, _, _, rfl, rfl, hln, at_tx (getD_at hji), _, rfl, _, _, rfl, rfl, wide_mul (a := 3) (b := 4) (by decide) (by simp; omega) (by decide) (by decide) (by decide), _, _, rfl, rfl, _, _, _, rfl, rfl, by decide, at_txI hb8 (br_at (by omega)), _, _, rfl, fun H2 s2 => ⟨_, rfl, ?_⟩⟩
      have hs : sumK (i + 1) (wT k κ l s j) = sumK i (wT k κ l s j) + wT k κ l s j i := sumK_succ _ _
      refine iteB (fun c1 => ?_) (fun c1 => ?_)
      · have ht : wT k κ l s j i = Wd k l j (j + i) * Rn k s (l.drop (j + i + 1)) := by
          unfold wT
          rw [if_pos c1]
        have hB2 := hB1.mono s2
        refine ⟨_, rfl, _, rfl, b, dx, _, rfl, hB2.eb, rfl, _, rfl, _, rfl, b, dx, d, _, kvs, k, l, j, j + i, rfl, hB2.eb, rfl, hB2.ed, hB2.tab, by omega, by omega, fun H3 s3 => ?_⟩
        have hB3 := hB2.mono s3
        obtain ⟨a, ha, hne, ea⟩ := hB3.top
        refine ⟨_, rfl, b, _, dx, _, _, rfl, hB3.eb, B.cls, B.no _ (by decide), rfl, _, rfl, cl, _, _, _, rfl, rfl, .inl (.inl hB3.ec), at_lL ha hne, _, rfl, _, _, rfl, rfl, a, _, _, _, rfl, rfl, .inl (.inl ea), atI_nat (j := j + i + 1) (clL_at (by omega)), ?_⟩
        refine ⟨_, _, rfl, rfl, wide_nn (Wd_le hk (by omega) _ _) (Rn_lt hk (by omega) _), _, _, rfl, rfl, some (nI (j + i)), ?_, ((s1.trans s2).trans s3)⟩
        rw [hs, ht]
        rfl
      · have ht : wT k κ l s j i = 0 := by
          unfold wT
          rw [c1, if_neg (by decide)]
        refine ⟨some (nI (j + i)), ?_, s1.trans s2⟩
        rw [hs, ht]
        rfl
    · obtain ⟨y4, rfl, s1⟩ := hP
      refine ⟨_, rfl, ?_⟩
      have := q _ s1
      rw [Rn_from hj] at this
      exact this
theorem at_l2 {xs : List V} {v : V} (h : xs[xs.length - 2]? = some v) (h0 : 2 ≤ xs.length) : atI xs (-2) = some v := by
  unfold atI ixN
  rw [if_neg (by decide), if_pos (by omega)]
  show xs[((-2 : Int) + (xs.length : Int)).toNat]? = some v
  have e2 : ((-2 : Int) + (xs.length : Int)).toNat = xs.length - 2 := by omega
  rw [e2]
  exact h
theorem Bg.sub {H0 H : Hp} {C b : Addr} {k p κ : Nat} {l s : List Nat} {dx d op cl : Addr} {cs : List Addr} {kvs : List (List L2.Key × V)} (B : Bg H0 H C b k l (κ :: s) p dx d op cl cs kvs) : ∃ a, (cs.map V.ref)[(cs.map V.ref).length - 2]? = some (V.ref a) ∧ 2 ≤ (cs.map V.ref).length ∧ H a = some (.lst (clL k l s)) := by
  have hl := B.len
  have hs : (κ :: s).length = s.length + 1 := rfl
  refine ⟨cs[s.length]'(by omega), ?_, ?_, ?_⟩
  · rw [List.length_map, List.getElem?_map, show cs.length - 2 = s.length by omega, List.getElem?_eq_getElem (by omega)]
    rfl
  · rw [List.length_map]
    omega
  · have := B.at_ s.length _ (List.getElem?_eq_getElem (by omega))
    rw [hs, show s.length + 1 - s.length = 1 by omega] at this
    exact this
theorem rev_last {κ : Nat} {s : List Nat} : ((κ :: s).reverse.map nI)[((κ :: s).reverse.map nI).length - 1]? = some (nI κ) := by
  rw [List.reverse_cons, List.map_append]
  simp
def spWith (C : Addr) : Sp := fun vs H Q _ => ∃ (H0 : Hp) (b : Addr) (k : Nat) (l s : List Nat) (p c : Nat), vs = [.ref b, .str (Tx [c])] ∧ BgE H0 H C b k l s p ∧ c ∈ lBR ∧ k ≤ 4 ∧ l.length ≤ 40 ∧ p < l.length ∧ ∀ H', Same H H' → Q (nI (wW k l s p c)) H'
theorem sc_Begun_ways_with : FnScope ["self", "bracket", "at"] ["self", "bracket"] (defScope s_Begun_ways_with) := ⟨rfl, rfl, rfl, by decide +kernel, rfl, by decide +kernel, by decide +kernel⟩
theorem ok_Begun_ways_with (T : Txt K mg) (B : BgT K) (F : FunP K "ways_with" "Begun.ways_with" s_Begun_ways_with f fd) (g_lets : Dk P w K mg base CX0 1 "lets" ["sign", "bracket"] spLets)
    (g_Begun_ways_from : Dm P w K mg base CX0 2 (cA K "Begun") "ways_from" ["self", "kind", "begin"] (spFrom (cA K "Begun"))) : FnOk P w K mg base CX0 3 f fd ["self", "bracket"] (spWith (cA K "Begun")) := by
  refine F.ok sc_Begun_ways_with (fun vs H Q E h => ?_) (fun cdv A outer s H vs Q E hr h => ?_)
  · obtain ⟨H0, b, k, l, s, p, c, rfl, _⟩ := h
    rfl
  · obtain ⟨H0, b, k, l, s, p, c, rfl, ⟨dx, d, op, cl, cs, kvs, hB⟩, hc, hk, hl, hp, q⟩ := h
    have hu := hu_of hr
    refine ⟨_, PSs.nox (pss_cons (ps_if (pt_not (pt_val (g_lets.call hr pass0 (pa_cons (pe_ix ix_str (pe_fld (pv 0) rfl) (pe_fld (pv 0) rfl) (fun _ _ => rfl)) (pa_cons (pv 1) pa_nil)))))
        (pss_one (ps_ret pe_int))
        pss_nil)
       (pss_cons (ps_set (i := 2) sc_Begun_ways_with.nd rfl (.inl rfl) (pe_m1 PySem.F.slot_str_index PySem.F.type_str_index mt_sindex (pe_gS T.c_BRACKETS) (pv 1)))
       (pss_cons (ps_if (pt_cmpR op_eq (pe_op op_mod (pv 2) pe_int) pe_int (nomark _))
        (pss_one (ps_ret (g_Begun_ways_from.meth hr pass0 (pv 0) (pa_cons (pe_op op_fdiv (pv 2) pe_int) (pa_cons (pe_op op_add (pe_fld (pv 0) rfl) pe_int) pa_nil)))))
        pss_nil)
       (pss_cons (ps_if (PW.pt (pw_or (pt_cmpR (op_eqD hr.units) (pe_fld (pv 0) rfl) (pe_lst pa_nil) (nomark _)) (pw_or1 (pt_cmpR op_ne (pe_ix (show IxR _ (rIxL K) from ix_list) (pe_fld (pv 0) rfl) (pe_un un_neg pe_int) (fun _ _ => rfl)) (pe_op op_fdiv (pv 2) pe_int) (nomark _)))))
        (pss_one (ps_ret pe_int))
        pss_nil)
       (pss_one (ps_ret (pe_ix (show IxR _ (rIxL K) from ix_list) (pe_ix (show IxR _ (rIxL K) from ix_list) (pe_fld (pv 0) rfl) (pe_un un_neg pe_int) (fun _ _ => rfl)) (pe_op op_add (pe_fld (pv 0) rfl) pe_int) (fun _ _ => rfl)))))))) , ?_⟩
    have hln : (Tx l).length ≤ sizeLine := by rw [Tx_len]; exact sl_le (by omega)
    have hi8 := idx_lt hc
    obtain ⟨rest, ho⟩ := occ_br hc
    refine ⟨_, rfl, b, _, dx, _, _, rfl, hB.eb, B.cls, B.no _ (by decide), rfl, _, rfl, b, _, dx, _, _, rfl, hB.eb, B.cls, B.no _ (by decide), rfl, _, _, _, rfl, rfl, hln, at_tx (getD_at hp), _, rfl, _, _, rfl, fun H1 s1 => ⟨_, rfl, ?_⟩⟩
    have hB1 := hB.mono s1
    cases c1 : letB (l.getD p 0) c with
    | false =>
      have := q _ s1
      have e : wW k l s p c = 0 := by
        unfold wW
        rw [c1, if_neg (by decide)]
      rw [e] at this
      exact this
    | true =>
      refine iteF ?_
      refine ⟨⟨_, rfl⟩, _, rfl, _, _, _, _, rfl, rfl, ho, ?_⟩
      refine ⟨_, rfl, _, _, rfl, rfl, by show (0 : Int) < 2; decide, rfl, _, rfl, ?_⟩
      have e2 : decide (V.int ((idx c : Int) % 2) = V.int 0) = opn c := by
        unfold opn
        refine decide_eq_decide.mpr ⟨fun z => ?_, fun z => ?_⟩
        · have := V.int.inj z
          omega
        · congr 1
          omega
      rw [e2]
      have ed : (idx c : Int) / 2 = ((idx c / 2 : Nat) : Int) := by omega
      refine iteB (fun c2 => ?_) (fun c2 => ?_)
      · refine ⟨_, rfl, b, dx, _, rfl, hB1.eb, rfl, _, rfl, _, _, rfl, rfl, ⟨by decide, by decide⟩, _, rfl, b, _, dx, _, _, rfl, hB1.eb, B.cls, B.no _ (by decide), rfl, _, _, rfl, rfl, ?_⟩
        refine ⟨H0, b, k, l, s, p, idx c / 2, p + 1, rfl, ⟨dx, d, op, cl, cs, kvs, hB1⟩, by omega, hk, hl, hp, fun H2 s2 => ?_⟩
        · have := q _ (s1.trans s2)
          have e : wW k l s p c = Rn k (idx c / 2 :: s) (l.drop (p + 1)) := by
            unfold wW
            rw [c1, if_pos rfl, c2, if_pos rfl]
          rw [e] at this
          exact this
      · have efl : ∀ x ∈ s.reverse.map nI, Fl x := nI_fl
        refine ⟨_, rfl, b, _, dx, _, _, rfl, hB1.eb, B.cls, B.no _ (by decide), rfl, Nat.zero_le _, fun p2 hp2 => eqD_nil (.inl (.inl (same_upd hp2 _ _ hB1.eo))) (.inl (.inl upd_same)) efl ⟨_, rfl, ?_⟩⟩
        have s2 : Same H1 (upd H1 p2 (.lst [])) := same_upd hp2
        have hB2 := hB1.mono s2
        generalize upd H1 p2 (.lst []) = H2 at s2 hB2 ⊢
        have q2 := q _ (s1.trans s2)
        cases s with
        | nil =>
          have e : wW k l [] p c = 0 := by
            unfold wW
            rw [c1, if_pos rfl, c2, if_neg (by decide)]
          rw [e] at q2
          exact q2
        | cons κ s =>
          have hne : (κ :: s).reverse.map nI ≠ [] := fun z => by
            have := congrArg List.length z
            simp at this
          have e : wW k l (κ :: s) p c = if κ = idx c / 2 then Rn k s (l.drop (p + 1)) else 0 := by
            unfold wW
            rw [c1, if_pos rfl, c2, if_neg (by decide)]
          have e0 : ((κ :: s).reverse.map nI).isEmpty = false := by
            cases z : (κ :: s).reverse.map nI with
            | nil => exact absurd z hne
            | cons a r => rfl
          rw [e0]
          refine iteF ?_
          refine ⟨_, rfl, b, _, dx, _, _, rfl, hB2.eb, B.cls, B.no _ (by decide), rfl, _, rfl, op, _, _, _, rfl, rfl, .inl (.inl hB2.eo), at_lL rev_last hne, _, rfl, _, _, rfl, rfl, ⟨by decide, by decide⟩, rfl, _, rfl, ?_⟩
          have e3 : (!decide (nI κ = V.int ((idx c : Int) / 2))) = !decide (κ = idx c / 2) := by
            congr 1
            refine decide_eq_decide.mpr ⟨fun z => ?_, fun z => ?_⟩
            · have := V.int.inj z
              omega
            · rw [z, ed]
          rw [e3]
          refine iteB (fun c3 => ?_) (fun c3 => ?_)
          · have c3' : ¬ κ = idx c / 2 := fun z => by
              rw [decide_eq_true z] at c3
              cases c3
            rw [e, if_neg c3'] at q2
            exact q2
          · have c3' : κ = idx c / 2 := Decidable.byContradiction fun z => by
              rw [decide_eq_false z] at c3
              cases c3
            rw [e, if_pos c3'] at q2
            obtain ⟨a, ha, h2, ea⟩ := hB2.sub
            exact ⟨_, rfl, b, _, dx, _, _, rfl, hB2.eb, B.cls, B.no _ (by decide), rfl, _, rfl, cl, _, _, _, rfl, rfl, .inl (.inl hB2.ec), at_l2 ha h2, _, rfl, b, _, dx, _, _, rfl, hB2.eb, B.cls, B.no _ (by decide), rfl, _, _, rfl, rfl, a, _, _, _, rfl, rfl, .inl (.inl ea), atI_nat (j := p + 1) (clL_at (by omega)), q2⟩
end
end BR
set_option Elab.async false
set_option linter.all false
set_option maxRecDepth 100000
set_option maxHeartbeats 4000000
/-! D9: bynumber.py: Begun.put, Begun.__init__ -/
namespace BR
open PySem PySem.Spec PyProof.Rows L2
theorem push_op {s : List Nat} {c : Nat} (h : opn c = true) : push s c = idx c / 2 :: s := by
  unfold push
  rw [if_pos h]
theorem push_cl {s : List Nat} {c : Nat} (h : opn c = false) : push s c = s.tail := by
  unfold push
  rw [h, if_neg (by decide)]
section
variable {P : Program} {w : World} {K : PySem.W.Frag} {mg : Str → Option Value} {base : Heap} {f : Addr} {fd : FuncData}
def spPut (C : Addr) : Sp := fun vs H Q _ => ∃ (H0 : Hp) (b : Addr) (k : Nat) (l s : List Nat) (p c : Nat), vs = [.ref b, .str (Tx [c])] ∧ BgE H0 H C b k l s p ∧ c ∈ lBR ∧ k ≤ 4 ∧ l.length ≤ 40 ∧ s.length ≤ 40 ∧ p < l.length ∧ (opn c = true ∨ s ≠ []) ∧ ∀ H', BgE H0 H' C b k l (push s c) (p + 1) → Q .non H'
theorem sc_Begun_put : FnScope ["self", "bracket", "at", "place"] ["self", "bracket"] (defScope s_Begun_put) := ⟨rfl, rfl, rfl, by decide +kernel, rfl, by decide +kernel, by decide +kernel⟩
theorem ok_Begun_put (T : Txt K mg) (B : BgT K) (F : FunP K "put" "Begun.put" s_Begun_put f fd)
    (g_Begun_ways_from : Dm P w K mg base CX0 2 (cA K "Begun") "ways_from" ["self", "kind", "begin"] (spFrom (cA K "Begun"))) : FnOk P w K mg base CX0 3 f fd ["self", "bracket"] (spPut (cA K "Begun")) := by
  refine F.ok sc_Begun_put (fun vs H Q E h => ?_) (fun cdv A outer s H vs Q E hr h => ?_)
  · obtain ⟨H0, b, k, l, s, p, c, rfl, _⟩ := h
    rfl
  · obtain ⟨H0, b, k, l, s, p, c, rfl, ⟨dx, d, op, cl, cs, kvs, hB⟩, hc, hk, hl, hsl, hp, safe, q⟩ := h
    have hu := hu_of hr
    refine ⟨_, PSs.nox (pss_cons (ps_set (i := 2) sc_Begun_put.nd rfl (.inr rfl) (pe_m1 PySem.F.slot_str_index PySem.F.type_str_index mt_sindex (pe_gS T.c_BRACKETS) (pv 1)))
       (pss_cons (ps_fldaug (pv 0) pe_int in_add)
       (pss_one (ps_if (pt_cmpR op_eq (pe_op op_mod (pv 2) pe_int) pe_int (nomark _))
        (pss_cons (ps_expr (pe_bm PySem.F.plainAttrs_list PySem.F.slot_list_append PySem.F.type_list_append mt_append (pe_fld (pv 0) rfl) (pa_cons (pe_lc (own := [("place", 3)]) (g := (gName 3)) (tt := _) (by rfl) sc_Begun_put.nd (pi_range1 rfl T.b_range (pa_cons (pe_op op_add (pe_callB call_len_str (by rfl) T.b_len (by decide +kernel) (pa_cons (pe_fld (pv 0) rfl) pa_nil)) pe_int) pa_nil)) (blkOk_by (own := [("place", 3)]) (N := ["self", "bracket", "at", "place"]) (sc := defScope s_Begun_put) (by decide +kernel)) (fun _ _ _ _ _ => (pg_name (i := 3) sc_Begun_put.nd rfl (.inl rfl))) (fun _ _ _ _ _ => pts_nil) (fun _ _ _ _ _ => (g_Begun_ways_from.meth hr pass0 (pv 0) (pa_cons (pe_op op_fdiv (pv 2) pe_int) (pa_cons (pv 3) pa_nil))))) pa_nil)))
       (pss_one (ps_expr (pe_bm PySem.F.plainAttrs_list PySem.F.slot_list_append PySem.F.type_list_append mt_append (pe_fld (pv 0) rfl) (pa_cons (pe_op op_fdiv (pv 2) pe_int) pa_nil)))))
        (pss_cons (ps_expr (pe_bm0 PySem.F.plainAttrs_list PySem.F.slot_list_pop PySem.F.type_list_pop mt_pop (pe_fld (pv 0) rfl)))
       (pss_one (ps_expr (pe_bm0 PySem.F.plainAttrs_list PySem.F.slot_list_pop PySem.F.type_list_pop mt_pop (pe_fld (pv 0) rfl))))))))) , ?_⟩
    have hln : (Tx l).length ≤ sizeLine := by rw [Tx_len]; exact sl_le (by omega)
    have hi8 := idx_lt hc
    obtain ⟨rest, ho⟩ := occ_br hc
    have hlen := hB.len
    refine ⟨⟨_, rfl⟩, _, rfl, _, _, _, _, rfl, rfl, ho, ?_⟩
    refine ⟨_, rfl, b, _, dx, _, _, rfl, hB.eb, B.cls, B.no _ (by decide), rfl, _, _, rfl, rfl, dx, _, hB.eb, (show (6 : Nat) < 1000 by decide), ?_⟩
    have eB : (upd H b (.ins (cA K "Begun") dx (putF "place" (V.int ((p : Int) + 1)) (bF k l d op cl p)))) = upd H b (.ins (cA K "Begun") dx (bF k l d op cl (p + 1))) := rfl
    have nb : ∀ {x : Addr} {o : HO}, H x = some o → (∀ C dx fs, o ≠ .ins C dx fs) → x ≠ b := fun h1 h2 => ne_of h1 hB.eb (h2 _ _ _)
    have hB1 : Bg H0 (upd H b (.ins (cA K "Begun") dx (bF k l d op cl (p + 1)))) (cA K "Begun") b k l s (p + 1) dx d op cl cs kvs := by
      have up : ∀ {x : Addr} {o : HO}, H x = some o → (∀ C dx fs, o ≠ .ins C dx fs) → (upd H b (.ins (cA K "Begun") dx (bF k l d op cl (p + 1)))) x = some o := fun h1 h2 => by
        rw [upd_ne (nb h1 h2)]
        exact h1
      exact ⟨Same.upn hB.same hB.fb, hB.fb, hB.fo, hB.fc, upd_same, up hB.ed (fun _ _ _ z => by cases z), hB.tab, up hB.eo (fun _ _ _ z => by cases z), up hB.ec (fun _ _ _ z => by cases z), hB.len, hB.no, hB.nc, hB.oc, fun j a e => up (hB.at_ j a e) (fun _ _ _ z => by cases z)⟩
    rw [eB]
    generalize upd H b (.ins (cA K "Begun") dx (bF k l d op cl (p + 1))) = H1 at hB1 ⊢
    refine ⟨_, rfl, _, _, rfl, rfl, by show (0 : Int) < 2; decide, rfl, _, rfl, ?_⟩
    have e2 : decide (V.int ((idx c : Int) % 2) = V.int 0) = opn c := by
      unfold opn
      refine decide_eq_decide.mpr ⟨fun z => ?_, fun z => ?_⟩
      · have := V.int.inj z
        omega
      · congr 1
        omega
    rw [e2]
    have ed : (idx c : Int) / 2 = ((idx c / 2 : Nat) : Int) := by omega
    refine iteB (fun c2 => ?_) (fun c2 => ?_)
    · -- an opening bracket
      refine ⟨_, rfl, b, _, dx, _, _, rfl, hB1.eb, B.cls, B.no _ (by decide), rfl, tyL hB1.ec, ?_⟩
      refine ⟨_, rfl, b, _, dx, _, _, rfl, hB1.eb, B.cls, B.no _ (by decide), rfl, _, rfl, hln, _, _, rfl, rfl, _, rfl, by rw [Tx_len]; omega, by rw [Tx_len]; omega, fun D hD => ?_⟩
      have hn : (((Tx l).length : Nat) + (1 : Int)).toNat = l.length + 1 := by rw [Tx_len]; omega
      rw [hn]
      refine lcF walk_range (fun _ => true) (fun i => nI (Rn k (idx c / 2 :: s) (l.drop i))) hD (by omega) (fun _ _ => trivial) (fun i x H2 H3 hi s2 y N hN => ?_) (fun H2 s2 e2 => ?_)
      · obtain ⟨rfl, hx⟩ := y
        have hx' : x = nI i := hx.trans (congrArg V.int (Int.zero_add _))
        subst hx'
        have hB2 := hB1.mono s2
        refine ⟨rfl, _, rfl, b, dx, _, rfl, hB2.eb, rfl, _, rfl, _, _, rfl, rfl, ⟨by decide, by decide⟩, _, rfl, H0, b, k, l, s, p + 1, idx c / 2, i, ?_, ⟨dx, d, op, cl, cs, kvs, hB2⟩, by omega, hk, hl, by omega, fun H4 s4 => ?_⟩
        · show [V.ref b, V.int ((idx c : Int) / 2), nI i] = _
          rw [ed]
        · have := hN _ s4
          rw [if_pos rfl] at this
          exact this
      · rw [lcV_all] at e2
        have hB2 := hB1.mono s2
        have nD : ∀ {x : Addr} {o : HO}, H1 x = some o → x ≠ D := fun h => ne_of_none h hD
        refine ⟨cl, _, _, rfl, rfl, hB2.ec, by rw [List.length_map]; exact sl_lt (by omega), ?_⟩
        have ebc : b ≠ cl := ne_of hB2.eb hB2.ec (by intro z; cases z)
        have ebo : b ≠ op := ne_of hB2.eb hB2.eo (by intro z; cases z)
        have edc : d ≠ cl := ne_of hB2.ed hB2.ec (by intro z; cases z)
        have edo : d ≠ op := ne_of hB2.ed hB2.eo (by intro z; cases z)
        have eb3 : (upd H2 cl (.lst (cs.map V.ref ++ [V.ref D]))) b = some (.ins (cA K "Begun") dx (bF k l d op cl (p + 1))) := by rw [upd_ne ebc]; exact hB2.eb
        have eo3 : (upd H2 cl (.lst (cs.map V.ref ++ [V.ref D]))) op = some (.lst (s.reverse.map nI)) := by rw [upd_ne hB2.oc]; exact hB2.eo
        refine ⟨_, rfl, b, _, dx, _, _, rfl, eb3, B.cls, B.no _ (by decide), rfl, tyL eo3, _, rfl, _, _, rfl, rfl, ⟨by decide, by decide⟩, op, _, _, rfl, rfl, eo3, by rw [List.length_map, List.length_reverse]; exact sl_lt (by omega), ?_⟩
        refine q _ ?_
        rw [push_op c2]
        refine ⟨dx, d, op, cl, cs ++ [D], kvs, Same.upn (Same.upn hB2.same hB2.fc) hB2.fo, hB2.fb, hB2.fo, hB2.fc, ?_, ?_, hB2.tab, ?_, ?_, ?_, ?_, ?_, hB2.oc, fun j a hj => ?_⟩
        · rw [upd_ne ebo]
          exact eb3
        · rw [upd_ne edo, upd_ne edc]
          exact hB2.ed
        · rw [upd_same, List.reverse_cons, List.map_append]
          show some (HO.lst (s.reverse.map nI ++ [V.int ((idx c : Int) / 2)])) = _
          rw [ed]
          rfl
        · rw [upd_ne hB2.oc.symm, upd_same, List.map_append]
          rfl
        · rw [List.length_append, hB2.len]
          rfl
        · intro z
          rcases List.mem_append.mp z with y | y
          · exact hB2.no y
          · exact nD hB1.eo (List.mem_singleton.mp y)
        · intro z
          rcases List.mem_append.mp z with y | y
          · exact hB2.nc y
          · exact nD hB1.ec (List.mem_singleton.mp y)
        · have hsl2 : (idx c / 2 :: s).length = s.length + 1 := rfl
          by_cases z : j < cs.length
          · have hj2 : cs[j]? = some a := by
              rw [List.getElem?_append_left z] at hj
              exact hj
            have hac := List.mem_of_getElem? hj2
            have nao : a ≠ op := fun y => hB2.no (y ▸ hac)
            have nac : a ≠ cl := fun y => hB2.nc (y ▸ hac)
            rw [upd_ne nao, upd_ne nac, hB2.at_ j a hj2, hsl2, show s.length + 1 - j = (s.length - j) + 1 by omega, List.drop_succ_cons]
          · have hjl : j = cs.length := by
              have := (List.getElem?_eq_some_iff.mp hj).1
              rw [List.length_append] at this
              simp at this
              omega
            rw [List.getElem?_append_right (by omega), hjl, Nat.sub_self] at hj
            have hDa : D = a := Option.some.inj hj
            subst hDa
            rw [upd_ne (nD hB1.eo).symm, upd_ne (nD hB1.ec).symm, hsl2, show s.length + 1 - j = 0 by omega, List.drop_zero]
            exact e2
    · -- a closing bracket
      rw [push_cl c2] at q
      have hne : s ≠ [] := by
        rcases safe with z | z
        · rw [c2] at z
          cases z
        · exact z
      cases s with
      | nil => exact absurd rfl hne
      | cons κ s =>
        obtain ⟨a, ha, hn1, ea⟩ := hB1.top
        have ebc : b ≠ cl := ne_of hB1.eb hB1.ec (by intro z; cases z)
        have ebo : b ≠ op := ne_of hB1.eb hB1.eo (by intro z; cases z)
        have edc : d ≠ cl := ne_of hB1.ed hB1.ec (by intro z; cases z)
        have edo : d ≠ op := ne_of hB1.ed hB1.eo (by intro z; cases z)
        have eb3 : (upd H1 cl (.lst (cs.map V.ref).dropLast)) b = some (.ins (cA K "Begun") dx (bF k l d op cl (p + 1))) := by rw [upd_ne ebc]; exact hB1.eb
        have eo3 : (upd H1 cl (.lst (cs.map V.ref).dropLast)) op = some (.lst ((κ :: s).reverse.map nI)) := by rw [upd_ne hB1.oc]; exact hB1.eo
        refine ⟨_, rfl, b, _, dx, _, _, rfl, hB1.eb, B.cls, B.no _ (by decide), rfl, tyL hB1.ec, cl, _, _, rfl, rfl, hB1.ec, ha, _, rfl, b, _, dx, _, _, rfl, eb3, B.cls, B.no _ (by decide), rfl, tyL eo3, op, _, _, rfl, rfl, eo3, rev_last, ?_⟩
        refine q _ ⟨dx, d, op, cl, cs.dropLast, kvs, Same.upn (Same.upn hB1.same hB1.fc) hB1.fo, hB1.fb, hB1.fo, hB1.fc, ?_, ?_, hB1.tab, ?_, ?_, ?_, ?_, ?_, hB1.oc, fun j a hj => ?_⟩
        · rw [upd_ne ebo]
          exact eb3
        · rw [upd_ne edo, upd_ne edc]
          exact hB1.ed
        · rw [upd_same, List.reverse_cons, List.map_append, List.dropLast_append_of_ne_nil (by simp)]
          simp
        · rw [upd_ne hB1.oc.symm, upd_same, List.map_dropLast]
        · rw [List.length_dropLast, hB1.len]
          rfl
        · exact fun z => hB1.no (List.dropLast_subset _ z)
        · exact fun z => hB1.nc (List.dropLast_subset _ z)
        · have hl3 : (κ :: s).length = s.length + 1 := rfl
          have hjl := (List.getElem?_eq_some_iff.mp hj).1
          have hl4 := hB1.len
          rw [List.length_dropLast] at hjl
          have hj2 : cs[j]? = some a := by
            rw [List.getElem?_dropLast] at hj
            rw [if_pos hjl] at hj
            exact hj
          have hac := List.mem_of_getElem? hj2
          have nao : a ≠ op := fun y => hB1.no (y ▸ hac)
          have nac : a ≠ cl := fun y => hB1.nc (y ▸ hac)
          rw [upd_ne nao, upd_ne nac, hB1.at_ j a hj2, hl3, show s.length + 1 - j = (s.length - j) + 1 by omega, List.drop_succ_cons]
          rfl
def spInit (C : Addr) : Sp := fun vs H Q _ => ∃ (H0 : Hp) (b dx : Addr) (k : Nat) (l : List Nat), vs = [.ref b, .int k, .str (Tx l)] ∧ Same H0 H ∧ H0 b = none ∧ H b = some (.ins C dx []) ∧ k ≤ 4 ∧ l.length ≤ 40 ∧ ∀ H', BgE H0 H' C b k l [] 0 → Q .non H'
theorem sc_Begun___init__ : FnScope ["self", "k", "row", "place"] ["self", "k", "row"] (defScope s_Begun___init__) := ⟨rfl, rfl, rfl, by decide +kernel, rfl, by decide +kernel, by decide +kernel⟩
theorem ok_Begun___init__ (T : Txt K mg) (B : BgT K) (F : FunP K "__init__" "Begun.__init__" s_Begun___init__ f fd) (g_counts_within : Dk P w K mg base CX0 3 "counts_within" ["k", "row"] spCounts)
    (g_Begun_ways_within : Dm P w K mg base CX0 1 (cA K "Begun") "ways_within" ["self", "begin", "end"] (spWithin (cA K "Begun"))) : FnOk P w K mg base CX0 4 f fd ["self", "k", "row"] (spInit (cA K "Begun")) := by
  refine F.ok sc_Begun___init__ (fun vs H Q E h => ?_) (fun cdv A outer s H vs Q E hr h => ?_)
  · obtain ⟨H0, b, dx, k, l, rfl, _⟩ := h
    rfl
  · obtain ⟨H0, b, dx, k, l, rfl, s0, fb, eb, hk, hl, q⟩ := h
    have hu := hu_of hr
    refine ⟨_, PSs.nox (pss_cons (ps_fld (pv 0) (pv 2) rfl)
       (pss_cons (ps_fld (pv 0) (pe_slice sl_str (pe_gS T.c_BRACKETS) po_none (po_some (pe_op op_mul pe_int (pv 1)))) rfl)
       (pss_cons (ps_fld (pv 0) (g_counts_within.call hr pass0 (pa_cons (pv 1) (pa_cons (pv 2) pa_nil))) rfl)
       (pss_cons (ps_fld (pv 0) (pe_lst pa_nil) rfl)
       (pss_cons (ps_fld (pv 0) (pe_lst (pa_cons (pe_lc (own := [("place", 3)]) (g := (gName 3)) (tt := _) (by rfl) sc_Begun___init__.nd (pi_range1 rfl T.b_range (pa_cons (pe_op op_add (pe_callB call_len_str (by rfl) T.b_len (by decide +kernel) (pa_cons (pv 2) pa_nil)) pe_int) pa_nil)) (blkOk_by (own := [("place", 3)]) (N := ["self", "k", "row", "place"]) (sc := defScope s_Begun___init__) (by decide +kernel)) (fun _ _ _ _ _ => (pg_name (i := 3) sc_Begun___init__.nd rfl (.inl rfl))) (fun _ _ _ _ _ => pts_nil) (fun _ _ _ _ _ => (g_Begun_ways_within.meth hr pass0 (pv 0) (pa_cons (pv 3) (pa_cons (pe_callB call_len_str (by rfl) T.b_len (by decide +kernel) (pa_cons (pv 2) pa_nil)) pa_nil))))) pa_nil)) rfl)
       (pss_one (ps_fld (pv 0) pe_int rfl))))))) , ?_⟩
    have hln : (Tx l).length ≤ sizeLine := by rw [Tx_len]; exact sl_le (by omega)
    refine ⟨_, rfl, _, rfl, b, _, dx, _, rfl, eb, B.cls, B.no _ (by decide), (show (0 : Nat) < 1000 by decide), ?_⟩
    have ec : cutS (Tx lBR) none (some (2 * (k : Int))) = Tx (kSet k) := by
      have e := cutS_to lBR (2 * k)
      have e2 : ((2 * k : Nat) : Int) = 2 * (k : Int) := by omega
      rw [e2] at e
      exact e
    -- self.brackets
    refine ⟨_, rfl, _, _, rfl, rfl, .inl ⟨by decide, by decide⟩, _, rfl, _, rfl, by decide, ?_⟩
    rw [ec]
    refine ⟨_, rfl, b, _, dx, _, rfl, upd_same, B.cls, B.no _ (by decide), (show (1 : Nat) < 1000 by decide), ?_⟩
    rw [upd_upd]
    -- self.counts
    refine ⟨_, rfl, _, rfl, k, l, rfl, hk, hl, fun H1 d kvs s1 hd e1 tab => ?_⟩
    have eb1 := s1 b _ upd_same
    refine ⟨_, rfl, b, _, dx, _, rfl, eb1, B.cls, B.no _ (by decide), (show (2 : Nat) < 1000 by decide), ?_⟩
    have nbd : d ≠ b := fun z => by
      rw [z, upd_same] at hd
      cases hd
    have hH0d : H0 d = none := (Same.upn s0 fb).free hd
    have s2 : Same H0 H1 := (Same.upn s0 fb).trans s1
    -- self.opened
    refine ⟨Nat.zero_le _, fun O hO => ?_⟩
    have s3 := Same.upn (o := .ins (cA K "Begun") dx (putF "counts" (V.ref d) (putF "brackets" (.str (Tx (kSet k))) (putF "line" (.str (Tx l)) [])))) s2 fb
    have nbO : b ≠ O := ne_of_none upd_same hO
    have ndO : d ≠ O := ne_of_none (by rw [upd_ne nbd]; exact e1) hO
    refine ⟨_, rfl, b, _, dx, _, rfl, (upd_ne nbO).trans upd_same, B.cls, B.no _ (by decide), (show (3 : Nat) < 1000 by decide), ?_⟩
    have s4 : Same H0 (upd (upd (upd H1 b (.ins (cA K "Begun") dx (putF "counts" (V.ref d) (putF "brackets" (.str (Tx (kSet k))) (putF "line" (.str (Tx l)) []))))) O (.lst [])) b
      (.ins (cA K "Begun") dx (putF "opened" (V.ref O) (putF "counts" (V.ref d) (putF "brackets" (.str (Tx (kSet k))) (putF "line" (.str (Tx l)) [])))))) := Same.upn (Same.upn s3 (s3.free hO)) fb
    obtain ⟨H2, hH2⟩ : ∃ H2, H2 = upd (upd (upd H1 b (.ins (cA K "Begun") dx (putF "counts" (V.ref d) (putF "brackets" (.str (Tx (kSet k))) (putF "line" (.str (Tx l)) []))))) O (.lst [])) b
      (.ins (cA K "Begun") dx (putF "opened" (V.ref O) (putF "counts" (V.ref d) (putF "brackets" (.str (Tx (kSet k))) (putF "line" (.str (Tx l)) []))))) := ⟨_, rfl⟩
    have eb2 : H2 b = some (.ins (cA K "Begun") dx (putF "opened" (V.ref O) (putF "counts" (V.ref d) (putF "brackets" (.str (Tx (kSet k))) (putF "line" (.str (Tx l)) []))))) := by rw [hH2, upd_same]
    have ed2 : H2 d = some (.dT kvs) := by rw [hH2, upd_ne nbd, upd_ne ndO, upd_ne nbd]; exact e1
    have eO2 : H2 O = some (.lst []) := by rw [hH2, upd_ne nbO.symm, upd_same]
    have fO : H0 O = none := s3.free hO
    rw [← hH2] at s4
    refine ⟨_, rfl, _, rfl, hln, _, _, rfl, rfl, _, rfl, by rw [Tx_len]; omega, by rw [Tx_len]; omega, fun D hD => ?_⟩
    rw [← hH2] at hD ⊢
    have hn : (((Tx l).length : Nat) + (1 : Int)).toNat = l.length + 1 := by rw [Tx_len]; omega
    rw [hn]
    refine lcF walk_range (fun _ => true) (fun i => nI (Rn k [] (l.drop i))) hD (by omega) (fun _ _ => trivial) (fun i x H3 H4 hi s5 y N hN => ?_) (fun H3 s5 e5 => ?_)
    · obtain ⟨rfl, hx⟩ := y
      have hx' : x = nI i := hx.trans (congrArg V.int (Int.zero_add _))
      subst hx'
      refine ⟨rfl, _, rfl, b, dx, _, rfl, s5 _ _ eb2, rfl, _, rfl, _, rfl, _, rfl, hln, ?_⟩
      rw [Tx_len]
      refine ⟨b, dx, d, _, kvs, k, l, i, l.length, rfl, s5 _ _ eb2, rfl, s5 _ _ ed2, tab, by omega, Nat.le_refl _, fun H5 s6 => ?_⟩
      have := hN _ s6
      rw [if_pos rfl] at this
      unfold Wd
      rw [sl_end]
      exact this
    · rw [lcV_all] at e5
      refine ⟨by show 1 ≤ sizeLine; decide, fun L hL => ?_⟩
      have s6 := s4.trans s5
      have nD : ∀ {x : Addr} {o : HO}, H2 x = some o → x ≠ D := fun h => ne_of_none h hD
      have nL : ∀ {x : Addr} {o : HO}, H3 x = some o → x ≠ L := fun h => ne_of_none h hL
      have nbL := nL (s5 _ _ eb2)
      have s7 : Same H0 (upd H3 L (.lst [V.ref D])) := Same.upn s6 (s6.free hL)
      have fL : H0 L = none := s6.free hL
      refine ⟨_, rfl, b, _, dx, _, rfl, (upd_ne nbL).trans (s5 _ _ eb2), B.cls, B.no _ (by decide), (show (4 : Nat) < 1000 by decide), ?_⟩
      refine ⟨_, rfl, b, _, dx, _, rfl, upd_same, B.cls, B.no _ (by decide), (show (5 : Nat) < 1000 by decide), ?_⟩
      refine q _ ⟨dx, d, O, L, [D], kvs, Same.upn (Same.upn s7 fb) fb, fb, fO, fL, upd_same, ?_, tab, ?_, ?_, rfl, ?_, ?_, nL (s5 _ _ eO2), fun j a hj => ?_⟩
      · rw [upd_ne nbd, upd_ne nbd, upd_ne (nL (s5 _ _ ed2))]
        exact s5 _ _ ed2
      · rw [upd_ne nbO.symm, upd_ne nbO.symm, upd_ne (nL (s5 _ _ eO2))]
        exact s5 _ _ eO2
      · rw [upd_ne nbL.symm, upd_ne nbL.symm, upd_same]
        rfl
      · exact fun z => nD eO2 (List.mem_singleton.mp z)
      · exact fun z => nL e5 (List.mem_singleton.mp z).symm
      · have hj0 : j = 0 := by
          have := (List.getElem?_eq_some_iff.mp hj).1
          simp at this
          omega
        subst hj0
        have hDa : D = a := Option.some.inj hj
        subst hDa
        rw [upd_ne (nD eb2).symm, upd_ne (nD eb2).symm, upd_ne (nL e5), e5]
        rfl
end
end BR
set_option Elab.async false
set_option linter.all false
set_option maxRecDepth 100000
set_option maxHeartbeats 4000000
/-! D10: bynumber.py: nth_filling, number_of -/
namespace BR
open PySem PySem.Spec PyProof.Rows L2
theorem pick_lt {g : Nat → Nat} {c i : Nat} {r : List Nat} (h : i < g c) : pick g (c :: r) i = (c, i) := by
  unfold pick
  rw [if_pos h]
theorem pick_ge {g : Nat → Nat} {c i : Nat} {r : List Nat} (h : ¬ i < g c) : pick g (c :: r) i = pick g r (i - g c) := by
  show (if i < g c then (c, i) else pick g r (i - g c)) = _
  rw [if_neg h]
theorem drop_kset {k j c : Nat} (h : (kSet k)[j]? = some c) : (kSet k).drop j = c :: (kSet k).drop (j + 1) := by
  obtain ⟨h1, h2⟩ := List.getElem?_eq_some_iff.mp h
  rw [List.drop_eq_getElem_cons h1, h2]
theorem dec_nn {a b : Nat} : decide ((a : Int) < (b : Int)) = decide (a < b) := by
  refine decide_eq_decide.mpr ⟨fun h => by omega, fun h => by omega⟩
section
variable {P : Program} {w : World} {K : PySem.W.Frag} {mg : Str → Option Value} {base : Heap} {f : Addr} {fd : FuncData}
def spNth (C : Addr) : Sp := fun vs H Q E => ∃ (k : Nat) (l : List Nat) (i : Nat), vs = [.int k, .str (Tx l), nI i] ∧ 1 ≤ k ∧ k ≤ 4 ∧ rowBy k l = true ∧ (i < Wn k l → ∀ H', Same H H' → Q (.str (Tx (nF k l i))) H') ∧ (¬ i < Wn k l → ∀ H', Same H H' → E (.ref C) none H')
theorem sc_nth_filling : FnScope ["k", "row", "i", "begun", "found", "place", "bracket", "many"] ["k", "row", "i"] (defScope s_nth_filling) := ⟨rfl, rfl, rfl, by decide +kernel, rfl, by decide +kernel, by decide +kernel⟩
theorem ok_nth_filling (T : Txt K mg) (F : FunP K "nth_filling" "nth_filling" s_nth_filling f fd) (B : BgT K) (g_need_line : Dk P w K mg base CX0 3 "need_line" ["k", "row"] spNeedLine) (g_is_whole : Dk P w K mg base CX0 1 "is_whole" ["thing"] spIsWhole)
    (g_Begun : Dc P w K mg base CX0 4 "Begun" (cA K "Begun") ["self", "k", "row"] (spInit (cA K "Begun"))) (g_Begun_ways_within : Dm P w K mg base CX0 1 (cA K "Begun") "ways_within" ["self", "begin", "end"] (spWithin (cA K "Begun")))
    (g_Begun_ways_with : Dm P w K mg base CX0 3 (cA K "Begun") "ways_with" ["self", "bracket"] (spWith (cA K "Begun"))) (g_Begun_put : Dm P w K mg base CX0 3 (cA K "Begun") "put" ["self", "bracket"] (spPut (cA K "Begun"))) :
    FnOk P w K mg base (L2.CX P w) 6 f fd ["k", "row", "i"] (spNth (cA K "NoNumber")) := by
  refine F.ok sc_nth_filling (fun vs H Q E h => ?_) (fun cdv A outer s H vs Q E hr h => ?_)
  · obtain ⟨k, l, i, rfl, _⟩ := h
    rfl
  · obtain ⟨k, l, i, rfl, h1, h2, hb, q1, q2⟩ := h
    refine ⟨_, (pss_cons (ps_expr (g_need_line.call hr pass0 (pa_cons (pv 0) (pa_cons (pv 1) pa_nil))))
       (pss_cons (ps_set (i := 3) sc_nth_filling.nd rfl (.inl rfl) (g_Begun.make hr pass0 (pa_cons (pv 0) (pa_cons (pv 1) pa_nil))))
       (pss_cons (ps_if (PW.pt (pw_or (pt_not (pt_val (g_is_whole.call hr pass0 (pa_cons (pv 2) pa_nil)))) (pw_or1 (pt_not (pt_chain op_le op_lt pe_int (pv 2) (g_Begun_ways_within.meth hr pass0 (pv 3) (pa_cons pe_int (pa_cons (pe_callB call_len_str (by rfl) T.b_len (by decide +kernel) (pa_cons (pv 1) pa_nil)) pa_nil))))))))
        (pss_one (ps_raise rfl (takes_of rfl rfl rfl rfl) (T.x_NoNumber.mk')))
        pss_nil)
       (pss_cons (ps_set (i := 4) sc_nth_filling.nd rfl (.inl rfl) pe_str)
       (pss_cons (ps_for (passes_of rfl) rfl (pi_range1 rfl T.b_range (pa_cons (pe_callB call_len_str (by rfl) T.b_len (by decide +kernel) (pa_cons (pv 1) pa_nil)) pa_nil)) (pg_name (i := 5) sc_nth_filling.nd rfl (.inl rfl))
        (pss_cons (ps_for (passes_of rfl) rfl (pi_str (pe_fld (pv 3) rfl)) (pg_name (i := 6) sc_nth_filling.nd rfl (.inl rfl))
        (pss_cons (ps_set (i := 7) sc_nth_filling.nd rfl (.inl rfl) (g_Begun_ways_with.meth hr pass0 (pv 3) (pa_cons (pv 6) pa_nil)))
       (pss_cons (ps_if (pt_cmpR op_lt (pv 2) (pv 7) (nomark _))
        (pss_one ps_break)
        pss_nil)
       (pss_one (ps_aug (i := 2) sc_nth_filling.nd rfl (.inl rfl) (pv 7) ip_sub)))))
       (pss_cons (ps_expr (g_Begun_put.meth hr pass0 (pv 3) (pa_cons (pv 6) pa_nil)))
       (pss_one (ps_set (i := 4) sc_nth_filling.nd rfl (.inl rfl) (pe_op op_add_str (pv 4) (pv 6)))))))
       (pss_one (ps_ret (pv 4)))))))) , ?_⟩
    have hl := rowBy_len hb
    have hln : (Tx l).length ≤ sizeLine := by rw [Tx_len]; exact sl_le (by omega)
    refine ⟨_, rfl, _, rfl, k, l, rfl, h1, h2, (Sg.of hb).as, hb, fun H1 s1 => ?_⟩
    refine ⟨_, rfl, _, rfl, fun b dx hb1 hdx hne => ?_⟩
    have s2 : Same H1 (upd (upd H1 dx (.own b)) b (.ins (cA K "Begun") dx [])) := Same.upn (same_upd hdx) hb1
    refine ⟨H1, b, dx, k, l, rfl, s2, hb1, upd_same, h2, hl, fun H2 hBE => ⟨rfl, ?_⟩⟩
    have s3 : Same H1 H2 := by
      obtain ⟨_, _, _, _, _, _, hB⟩ := hBE
      exact hB.same
    -- is the number one of them
    refine ⟨_, rfl, _, rfl, _, rfl, ?_⟩
    refine iteF ⟨_, rfl, _, _, rfl, rfl, _, rfl, ?_⟩
    rw [decide_eq_true (show (0 : Int) ≤ (i : Int) by omega)]
    obtain ⟨dx', d, op, cl, cs, kvs, hB⟩ := id hBE
    refine iteT ⟨_, rfl, b, dx', _, rfl, hB.eb, rfl, _, rfl, _, rfl, hln, ?_⟩
    rw [Tx_len]
    refine ⟨b, dx', d, _, kvs, k, l, 0, l.length, rfl, hB.eb, rfl, hB.ed, hB.tab, Nat.zero_le _, Nat.le_refl _, fun H3 s4 => ?_⟩
    have hW : Wd k l 0 l.length = Wn k l := by
      unfold Wd
      rw [sl_all]
    rw [hW]
    refine ⟨_, _, rfl, rfl, _, rfl, ?_⟩
    rw [dec_nn]
    by_cases hi : i < Wn k l
    · rw [decide_eq_true hi]
      have hiW : i < Wd k l 0 l.length := by rw [hW]; exact hi
      have hok := nS_ok (k := k) (l := l) (i := i) h2 hiW
      refine iteF ⟨_, rfl, _, rfl, hln, _, rfl, by rw [Tx_len]; omega, by rw [Tx_len]; omega, ?_⟩
      have hn : (((Tx l).length : Nat) : Int).toNat = l.length := by rw [Tx_len]; omega
      rw [hn]
      refine for_it walk_range (fun p σ H' => ∃ y5 y6 y7, σ = [some (.int k), some (.str (Tx l)), some (nI (nS k l i p).2.1), some (.ref b), some (.str (Tx (nS k l i p).2.2)), y5, y6, y7] ∧ BgE H1 H' (cA K "Begun") b k l (nS k l i p).1 p)
        ⟨_, _, _, rfl, hBE.mono s4⟩ (fun _ _ _ _ _ => trivial) (fun p x σ H4 H5 hp hP hY => ?_) (fun σ H4 hP => ?_)
      · obtain ⟨y5, y6, y7, rfl, hE4⟩ := hP
        obtain ⟨rfl, hx⟩ := hY
        have hx' : x = nI p := hx.trans (congrArg V.int (Int.zero_add _))
        subst hx'
        clear hx
        obtain ⟨k1, k2, k3, k4, k5⟩ := hok p (by omega)
        obtain ⟨p1, p2⟩ := pick_in (g := wW k l (nS k l i p).1 p) (cs := kSet k) (i := (nS k l i p).2.1) (by rw [wW_all h2 hp k1]; exact k3)
        obtain ⟨g, hg⟩ : ∃ g, g = wW k l (nS k l i p).1 p := ⟨_, rfl⟩
        obtain ⟨dx4, d4, op4, cl4, cs4, kv4, hB4⟩ := id hE4
        -- for bracket in begun.brackets
        refine ⟨_, rfl, b, _, dx4, _, _, rfl, hB4.eb, B.cls, B.no _ (by decide), rfl, _, rfl, ?_⟩
        have hz : (Tx (kSet k)).cps.size = (kSet k).length := by simp [Tx]
        refine for_it walk_str (fun j σ H' => ∃ ij y6 y7, σ = [some (.int k), some (.str (Tx l)), some (nI ij), some (.ref b), some (.str (Tx (nS k l i p).2.2)), some (nI p), y6, y7] ∧ BgE H1 H' (cA K "Begun") b k l (nS k l i p).1 p ∧ pick g (kSet k) (nS k l i p).2.1 = pick g ((kSet k).drop j) ij)
          ⟨_, _, _, rfl, hE4, by rw [List.drop_zero]⟩ (fun _ _ _ _ _ => trivial) (fun j x σ H5 H6 hj hP hY => ?_) (fun σ H5 hP => ?_)
        · obtain ⟨ij, z6, z7, rfl, hE5, hpk⟩ := hP
          obtain ⟨rfl, c, hc, rfl⟩ := hY
          have hc2 := txt_at hc
          have hcm : c ∈ kSet k := List.mem_of_getElem? hc2
          obtain ⟨dx5, d5, op5, cl5, cs5, kv5, hB5⟩ := id hE5
          refine ⟨_, rfl, b, dx5, _, rfl, hB5.eb, rfl, _, rfl, H1, b, k, l, (nS k l i p).1, p, c, rfl, hE5, kSet_br hcm, h2, hl, hp, fun H7 s7 => ?_⟩
          rw [← hg]
          refine ⟨_, rfl, _, rfl, _, _, rfl, rfl, _, rfl, ?_⟩
          rw [dec_nn]
          rw [drop_kset hc2] at hpk
          refine iteB (fun c1 => ?_) (fun c1 => ?_)
          · have c1' := of_decide_eq_true c1
            rw [pick_lt c1'] at hpk
            have e1 : nS k l i (p + 1) = (push (nS k l i p).1 c, ij, (nS k l i p).2.2 ++ [c]) := by
              show (push (nS k l i p).1 (pick (wW k l (nS k l i p).1 p) (kSet k) (nS k l i p).2.1).1, _, _) = _
              rw [← hg, hpk]
            have hE7 := hE5.mono s7
            obtain ⟨dx7, d7, op7, cl7, cs7, kv7, hB7⟩ := id hE7
            refine ⟨_, rfl, b, dx7, _, rfl, hB7.eb, rfl, _, rfl, H1, b, k, l, (nS k l i p).1, p, c, rfl, hE7, kSet_br hcm, h2, hl, by omega, hp, wW_safe (k := k) (p := p) (l := l) (by rw [← hg]; omega), fun H8 hE8 => ?_⟩
            refine ⟨_, rfl, _, rfl, _, _, rfl, rfl, by rw [Tx_len, k4]; exact sl_le (by show p + 1 ≤ _; omega), some (nI p), some (.str (Tx [c])), some (nI (g c)), ?_, ?_⟩
            · rw [e1, ← Tx_app]
              rfl
            · rw [e1]
              exact hE8
          · have c1' : ¬ ij < g c := of_decide_eq_false c1
            rw [pick_ge c1'] at hpk
            refine ⟨_, rfl, _, rfl, _, _, rfl, rfl, ij - g c, some (.str (Tx [c])), some (nI (g c)), ?_, hE5.mono s7, hpk⟩
            rw [← (show V.int ((ij : Int) - (g c : Int)) = nI (ij - g c) from congrArg V.int (by omega))]
            rfl
        · obtain ⟨ij, z6, z7, rfl, hE5, hpk⟩ := hP
          have e0 : (kSet k).drop (kSet k).length = [] := List.drop_length
          rw [hz, e0] at hpk
          rw [← hg, hpk] at p1
          have : (0 : Nat) ∈ lBR := kSet_br p1
          exact absurd this (by decide)
      · obtain ⟨y5, y6, y7, rfl, hE4⟩ := hP
        have s5 : Same H1 H4 := by
          obtain ⟨_, _, _, _, _, _, hB⟩ := hE4
          exact hB.same
        exact ⟨_, rfl, q1 hi _ (s1.trans s5)⟩
    · rw [decide_eq_false hi]
      exact iteT (q2 hi _ (s1.trans (s3.trans s4)))
theorem till : ∀ {cs : List Nat} {j c : Nat}, cs[j]? = some c → (∀ d ∈ cs.take j, d ≠ c) → cs.takeWhile (fun d => !decide (d = c)) = cs.take j
  | [], j, c, h, _ => by simp at h
  | a :: r, 0, c, h, _ => by
    have : a = c := Option.some.inj h
    subst this
    rw [List.takeWhile_cons_of_neg (by simp)]
    rfl
  | a :: r, j + 1, c, h, hn => by
    have ha : a ≠ c := hn a (by rw [List.take_succ_cons]; exact List.mem_cons_self)
    rw [List.takeWhile_cons_of_pos (by simp [ha]), List.take_succ_cons, till (cs := r) (j := j) h fun d hd => hn d (by rw [List.take_succ_cons]; exact List.mem_cons_of_mem _ hd)]
theorem take_next {cs : List Nat} {j d : Nat} (h : cs[j]? = some d) : cs.take (j + 1) = cs.take j ++ [d] := by
  rw [List.take_add_one, h]
  rfl
theorem cB_at {g : Nat → Nat} {cs : List Nat} {j c : Nat} (h : cs[j]? = some c) (hn : ∀ d ∈ cs.take j, d ≠ c) : cB g cs c = ((cs.take j).map g).sum := by
  unfold cB
  rw [till h hn]
def spNumber (C : Addr) : Sp := fun vs H Q E => ∃ (k : Nat) (l m : List Nat), vs = [.int k, .str (Tx l), .str (Tx m)] ∧ 1 ≤ k ∧ k ≤ 4 ∧ rowBy k l = true ∧ As m ∧ m.length ≤ 10000 ∧ (isF k l m = true → ∀ H', Same H H' → Q (nI (nO k l m)) H') ∧ (isF k l m = false → ∀ H', Same H H' → E (.ref C) none H')
theorem sc_number_of : FnScope ["k", "row", "filling", "begun", "found", "sign", "bracket"] ["k", "row", "filling"] (defScope s_number_of) := ⟨rfl, rfl, rfl, by decide +kernel, rfl, by decide +kernel, by decide +kernel⟩
theorem ok_number_of (T : Txt K mg) (F : FunP K "number_of" "number_of" s_number_of f fd) (B : BgT K) (g_need_line : Dk P w K mg base CX0 3 "need_line" ["k", "row"] spNeedLine) (g_is_filling : Dk P w K mg base CX0 5 "is_filling" ["k", "row", "filling"] spFilling)
    (g_Begun : Dc P w K mg base CX0 4 "Begun" (cA K "Begun") ["self", "k", "row"] (spInit (cA K "Begun")))
    (g_Begun_ways_with : Dm P w K mg base CX0 3 (cA K "Begun") "ways_with" ["self", "bracket"] (spWith (cA K "Begun"))) (g_Begun_put : Dm P w K mg base CX0 3 (cA K "Begun") "put" ["self", "bracket"] (spPut (cA K "Begun"))) :
    FnOk P w K mg base (L2.CX P w) 6 f fd ["k", "row", "filling"] (spNumber (cA K "NotRight")) := by
  refine F.ok sc_number_of (fun vs H Q E h => ?_) (fun cdv A outer s H vs Q E hr h => ?_)
  · obtain ⟨k, l, m, rfl, _⟩ := h
    rfl
  · obtain ⟨k, l, m, rfl, h1, h2, hb, has, hml, q1, q2⟩ := h
    refine ⟨_, (pss_cons (ps_expr (g_need_line.call hr pass0 (pa_cons (pv 0) (pa_cons (pv 1) pa_nil))))
       (pss_cons (ps_if (pt_not (pt_val (g_is_filling.call hr pass0 (pa_cons (pv 0) (pa_cons (pv 1) (pa_cons (pv 2) pa_nil))))))
        (pss_one (ps_raise rfl (takes_of rfl rfl rfl rfl) (T.x_NotRight.mk')))
        pss_nil)
       (pss_cons (ps_set (i := 3) sc_number_of.nd rfl (.inl rfl) (g_Begun.make hr pass0 (pa_cons (pv 0) (pa_cons (pv 1) pa_nil))))
       (pss_cons (ps_set (i := 4) sc_number_of.nd rfl (.inl rfl) pe_int)
       (pss_cons (ps_for (passes_of rfl) rfl (pi_str (pv 2)) (pg_name (i := 5) sc_number_of.nd rfl (.inl rfl))
        (pss_cons (ps_for (passes_of rfl) rfl (pi_str (pe_fld (pv 3) rfl)) (pg_name (i := 6) sc_number_of.nd rfl (.inl rfl))
        (pss_cons (ps_if (pt_cmpR op_eq (pv 6) (pv 5) (nomark _))
        (pss_one ps_break)
        pss_nil)
       (pss_one (ps_aug (i := 4) sc_number_of.nd rfl (.inl rfl) (g_Begun_ways_with.meth hr pass0 (pv 3) (pa_cons (pv 6) pa_nil)) ip_add))))
       (pss_one (ps_expr (g_Begun_put.meth hr pass0 (pv 3) (pa_cons (pv 5) pa_nil))))))
       (pss_one (ps_ret (pv 4)))))))) , ?_⟩
    have hl := rowBy_len hb
    refine ⟨_, rfl, _, rfl, k, l, rfl, h1, h2, (Sg.of hb).as, hb, fun H1 s1 => ?_⟩
    refine ⟨_, rfl, _, rfl, _, rfl, k, l, m, rfl, h1, h2, hb, has, hml, fun H2 s2 => ⟨_, rfl, ?_⟩⟩
    cases hF : isF k l m with
    | false => exact iteT (q2 hF _ (s1.trans s2))
    | true =>
      obtain ⟨f1, f2, f3⟩ := isF_sigs hF
      have hmn : m.length = l.length := f1
      refine iteF ⟨_, rfl, _, rfl, fun b dx hb1 hdx hne => ?_⟩
      have s3 : Same H2 (upd (upd H2 dx (.own b)) b (.ins (cA K "Begun") dx [])) := Same.upn (same_upd hdx) hb1
      refine ⟨H2, b, dx, k, l, rfl, s3, hb1, upd_same, h2, hl, fun H3 hBE => ⟨rfl, ?_⟩⟩
      have hz : (Tx m).cps.size = l.length := by
        rw [← hmn]
        simp [Tx]
      refine ⟨_, rfl, _, rfl, ?_⟩
      refine for_it walk_str (fun p σ H' => ∃ y5 y6, σ = [some (.int k), some (.str (Tx l)), some (.str (Tx m)), some (.ref b), some (nI (sumK p fun p => cB (wW k l (stk m p) p) (kSet k) (m.getD p 0))), y5, y6] ∧ BgE H2 H' (cA K "Begun") b k l (stk m p) p)
        ⟨_, _, rfl, hBE⟩ (fun _ _ _ _ _ => trivial) (fun p x σ H4 H5 hp hP hY => ?_) (fun σ H4 hP => ?_)
      · obtain ⟨y5, y6, rfl, hE4⟩ := hP
        obtain ⟨rfl, c, hc, rfl⟩ := hY
        rw [hz] at hp
        have hc2 := txt_at hc
        have hcD : m.getD p 0 = c := by simp [List.getD_eq_getElem?_getD, hc2]
        have hck : c ∈ kSet k := f3 c (List.mem_of_getElem? hc2)
        obtain ⟨k1, k2⟩ := stk_kind h2 f3 p (by omega)
        have safe := isR_safe f2 (p := p) (by omega)
        rw [hcD] at safe
        obtain ⟨g, hg⟩ : ∃ g, g = wW k l (stk m p) p := ⟨_, rfl⟩
        obtain ⟨B0, hB0⟩ : ∃ B0, B0 = sumK p fun p => cB (wW k l (stk m p) p) (kSet k) (m.getD p 0) := ⟨_, rfl⟩
        obtain ⟨dx4, d4, op4, cl4, cs4, kv4, hB4⟩ := id hE4
        refine ⟨_, rfl, b, _, dx4, _, _, rfl, hB4.eb, B.cls, B.no _ (by decide), rfl, _, rfl, ?_⟩
        rw [← hB0]
        refine for_it walk_str (fun j σ H' => ∃ y6, σ = [some (.int k), some (.str (Tx l)), some (.str (Tx m)), some (.ref b), some (nI (B0 + (((kSet k).take j).map g).sum)), some (.str (Tx [c])), y6] ∧ BgE H2 H' (cA K "Begun") b k l (stk m p) p ∧ ∀ d ∈ (kSet k).take j, d ≠ c)
          ⟨_, rfl, hE4, fun d h => (by cases h)⟩ (fun _ _ _ _ _ => trivial) (fun j x σ H5 H6 hj hP hY => ?_) (fun σ H5 hP => ?_)
        · obtain ⟨z6, rfl, hE5, hnc⟩ := hP
          obtain ⟨rfl, d, hd, rfl⟩ := hY
          have hd2 := txt_at hd
          refine ⟨_, rfl, _, rfl, rfl, _, rfl, ?_⟩
          rw [sign_eqA]
          refine iteB (fun c1 => ?_) (fun c1 => ?_)
          · have c1' : d = c := of_decide_eq_true c1
            subst c1'
            obtain ⟨dx7, d7, op7, cl7, cs7, kv7, hB7⟩ := id hE5
            have e1 : sumK (p + 1) (fun p => cB (wW k l (stk m p) p) (kSet k) (m.getD p 0)) = B0 + (((kSet k).take j).map g).sum := by
              rw [sumK_succ, ← hB0, ← hg, hcD, cB_at hd2 hnc]
            refine ⟨_, rfl, b, dx7, _, rfl, hB7.eb, rfl, _, rfl, H2, b, k, l, stk m p, p, d, rfl, hE5, kSet_br hck, h2, hl, by omega, hp, safe, fun H8 hE8 => ?_⟩
            refine ⟨some (.str (Tx [d])), some (.str (Tx [d])), ?_, ?_⟩
            · rw [e1]
              rfl
            · show BgE H2 H8 (cA K "Begun") b k l (push (stk m p) (m.getD p 0)) (p + 1)
              rw [hcD]
              exact hE8
          · obtain ⟨dx5, d5, op5, cl5, cs5, kv5, hB5⟩ := id hE5
            refine ⟨_, rfl, _, rfl, b, dx5, _, rfl, hB5.eb, rfl, _, rfl, H2, b, k, l, stk m p, p, d, rfl, hE5, kSet_br (List.mem_of_getElem? hd2), h2, hl, hp, fun H7 s7 => ?_⟩
            rw [← hg]
            refine ⟨_, _, rfl, rfl, some (.str (Tx [d])), ?_, hE5.mono s7, fun e he => ?_⟩
            · rw [take_next hd2, List.map_append, List.sum_append]
              have e2 : V.int ((B0 + (((kSet k).take j).map g).sum : Nat) + (g d : Int)) = nI (B0 + ((((kSet k).take j).map g).sum + ([d].map g).sum)) := by
                refine congrArg V.int ?_
                simp
                omega
              rw [← e2]
              rfl
            · rw [take_next hd2] at he
              rcases List.mem_append.mp he with e1 | e1
              · exact hnc e e1
              · rw [List.mem_singleton.mp e1]
                exact of_decide_eq_false c1
        · obtain ⟨z6, rfl, hE5, hnc⟩ := hP
          have hz2 : (Tx (kSet k)).cps.size = (kSet k).length := by simp [Tx]
          rw [hz2, List.take_length] at hnc
          exact absurd rfl (hnc c hck)
      · obtain ⟨y5, y6, rfl, hE4⟩ := hP
        have s5 : Same H2 H4 := by
          obtain ⟨_, _, _, _, _, _, hB⟩ := hE4
          exact hB.same
        refine ⟨_, rfl, ?_⟩
        rw [hz, ← hmn]
        exact q1 hF _ (s1.trans (s2.trans s5))
end
end BR
set_option Elab.async false
set_option linter.all false
set_option maxRecDepth 100000
set_option maxHeartbeats 4000000
/-! K2: min over a list of data -/
namespace BR
open PySem PySem.Spec PyProof.Rows L2
open PySem.W (dataLt AlikeAll alike alikeAll iter_listW readsAll_len cmpIn_lt moved_old)
/-- the place of the first of the least -/
def least (ds : List PyData) : Nat := argBest (fun i j => dataLt (ds.getD i .none) (ds.getD j .none)) (ds.length - 1)
theorem argBest_le (bt : Nat → Nat → Bool) : ∀ k, argBest bt k ≤ k
  | 0 => Nat.le_refl _
  | k + 1 => by
    unfold argBest
    split
    · exact Nat.le_refl _
    · exact Nat.le_succ_of_le (argBest_le bt k)
theorem least_lt {ds : List PyData} (h : ds ≠ []) : least ds < ds.length := by
  have h1 := argBest_le (fun i j => dataLt (ds.getD i .none) (ds.getD j .none)) (ds.length - 1)
  have h2 : 0 < ds.length := List.length_pos_iff.mpr h
  unfold least
  omega
section
variable {X : Cx}
theorem cr_minT (hc : X.calm = true) (hu : X.A.units + 64 < cLine) : CallR X (.builtin "min") (fun vs H Q => ∃ (a : Addr) (xs : List V) (ds : List PyData), vs = [.ref a] ∧ SqL X.K H a xs ∧ DpAll X.K H xs ds ∧ ds ≠ [] ∧ AlikeAll ds ∧ PyData.depthAll ds ≤ 60 ∧ ∀ x, xs[least ds]? = some x → Q x H) := by
  intro pins s σ H vs us Q I r h
  obtain ⟨a, xs, ds, rfl, hq, hd, hne, hal, hdp, q⟩ := h
  obtain ⟨u, rfl, rx⟩ := vals1 r
  obtain rfl : u = Value.ref a := rx
  obtain ⟨its, rv, pl, hz⟩ := I.list hq
  obtain ⟨as, hreads⟩ := Dp.readsAll I ds xs its hd rv
  have hreads2 : ReadsAll s.heap its.toArray.toList ds as := hreads
  have hsz : its.toArray.size = ds.length := readsAll_len hreads2
  refine call_min_walkH (iter_listW (A := X.A.in1) (I.ok.hd hc) pl.isList fun s2 e2 W st hfp hw hk => ?_)
  refine ⟨_, _, _, _, _, _, _, s.heap, _, rfl, W, st, hfp, ?_, hw, hk, cmpIn_lt (A := X.A.in1) hreads2 hal (by show X.A.units + 1 + _ < _; omega), fun v s3 hv m => ?_⟩
  · rw [hsz]
    exact List.length_pos_iff.mpr hne
  · obtain ⟨h3, t3, rfl, keep⟩ := moved_old e2 rfl m
    rw [hsz] at hv
    have hv2 : its[least ds]? = some v := by
      have : its.toArray[least ds]? = some v := hv
      simpa using this
    have hi : least ds < xs.length := by
      rw [rv.length]
      exact (List.getElem?_eq_some_iff.mp hv2).1
    obtain ⟨w, hw2, rw2⟩ := rv.get (List.getElem?_eq_getElem hi)
    obtain rfl : v = w := Option.some.inj (hv2.symm.trans hw2)
    exact ⟨xs[least ds], H, I.kept (t' := t3) keep, rw2, q _ (List.getElem?_eq_getElem hi)⟩
end
end BR
set_option Elab.async false
set_option linter.all false
set_option maxRecDepth 100000
set_option maxHeartbeats 4000000
/-! M5: the fewest changes; plain. -/
namespace BR
open PySem PySem.Spec PyProof.Rows L2
open PySem.W (dataLt AlikeAll alike alikeAll)
def chg (l : List Nat) (i b : Nat) : Nat := if l.getD i 0 ≠ 63 ∧ l.getD i 0 ≠ b then 1 else 0
/-- what is compared -/
def toD (x : Nat × List Nat) : PyData := .tuple [.int (x.1 : Int), .list (x.2.map fun p : Nat => .int (p : Int))]
def bestOf (c : List (Nat × List Nat)) : Nat × List Nat := c.getD (least (c.map toD)) (0, [])
/-- a way to pair the first sign of a stretch -/
def cand (g : Nat → Nat → Nat × List Nat) (l : List Nat) (i u t κ : Nat) : Nat × List Nat :=
  (chg l i (br (2 * κ)) + chg l (i + 1 + 2 * t) (br (2 * κ + 1)) + (g t (i + 1)).1 + (g (u - t) (i + 2 + 2 * t)).1, [2 * κ] ++ (g t (i + 1)).2 ++ [2 * κ + 1] ++ (g (u - t) (i + 2 + 2 * t)).2)
/-- the first t closing places, the first κ kinds of the next -/
def cands (g : Nat → Nat → Nat × List Nat) (k : Nat) (l : List Nat) (i u t : Nat) : List (Nat × List Nat) := (List.range t).flatMap fun t => (List.range k).map (cand g l i u t)
theorem cands_succ {g : Nat → Nat → Nat × List Nat} {k : Nat} {l : List Nat} {i u t : Nat} : cands g k l i u (t + 1) = cands g k l i u t ++ (List.range k).map (cand g l i u t) := by
  unfold cands
  rw [List.range_succ, List.flatMap_append]
  simp
theorem cands_len {g : Nat → Nat → Nat × List Nat} {k : Nat} {l : List Nat} {i u : Nat} : ∀ t, (cands g k l i u t).length = t * k
  | 0 => by simp [cands]
  | t + 1 => by
    rw [cands_succ, List.length_append, cands_len t, List.length_map, List.length_range, Nat.succ_mul]
theorem cands_congr {g g' : Nat → Nat → Nat × List Nat} {k : Nat} {l : List Nat} {i u : Nat} (h : ∀ v, v ≤ u → ∀ i, g v i = g' v i) : ∀ t, t ≤ u + 1 → cands g k l i u t = cands g' k l i u t
  | 0, _ => rfl
  | t + 1, ht => by
    rw [cands_succ, cands_succ, cands_congr h t (by omega)]
    congr 1
    refine List.map_congr_left fun κ _ => ?_
    unfold cand
    rw [h t (by omega), h (u - t) (by omega)]
/-- the best for the stretch of u pairs from i; the first argument: how deep it may look -/
def bU (k : Nat) (l : List Nat) : Nat → Nat → Nat → Nat × List Nat
  | _, 0, _ => (0, [])
  | 0, _ + 1, _ => (0, [])
  | n + 1, u + 1, i => bestOf (cands (bU k l n) k l i u (u + 1))
theorem bU_deep {k : Nat} {l : List Nat} : ∀ n m u i, u ≤ n → u ≤ m → bU k l n u i = bU k l m u i
  | n, m, 0, i, _, _ => by
    cases n <;> cases m <;> rfl
  | 0, _, u + 1, _, h, _ => by omega
  | _, 0, u + 1, _, _, h => by omega
  | n + 1, m + 1, u + 1, i, h1, h2 => by
    show bestOf _ = bestOf _
    rw [cands_congr (fun v hv i => bU_deep n m v i (by omega) (by omega)) (u + 1) (Nat.le_refl _)]
def bst (k : Nat) (l : List Nat) (u i : Nat) : Nat × List Nat := bU k l u u i
theorem bst_zero (k : Nat) (l : List Nat) (i : Nat) : bst k l 0 i = (0, []) := rfl
theorem bst_succ (k : Nat) (l : List Nat) (u i : Nat) : bst k l (u + 1) i = bestOf (cands (bst k l) k l i u (u + 1)) := by
  show bestOf _ = _
  rw [cands_congr (fun v hv i => bU_deep u v v i hv (Nat.le_refl _)) (u + 1) (Nat.le_refl _)]
  rfl
theorem bestOf_in {c : List (Nat × List Nat)} (h : c ≠ []) : bestOf c ∈ c := by
  have h1 : least (c.map toD) < (c.map toD).length := least_lt fun z => h (List.map_eq_nil_iff.mp z)
  rw [List.length_map] at h1
  unfold bestOf
  rw [List.getD_eq_getElem?_getD, List.getElem?_eq_getElem h1]
  exact List.getElem_mem _
theorem bst_ok {k : Nat} (h1 : 1 ≤ k) (hk : k ≤ 4) (l : List Nat) : ∀ n u i, u ≤ n → (bst k l u i).2.length = 2 * u ∧ ∀ p ∈ (bst k l u i).2, p < 8
  | _, 0, i, _ => ⟨rfl, fun p h => (by cases h)⟩
  | 0, u + 1, _, h => by omega
  | n + 1, u + 1, i, h => by
    rw [bst_succ]
    have hne : cands (bst k l) k l i u (u + 1) ≠ [] := fun z => by
      have := congrArg List.length z
      rw [cands_len] at this
      have h3 : 0 < (u + 1) * k := Nat.mul_pos (by omega) (by omega)
      have h4 : (u + 1) * k = 0 := this
      omega
    have hm := bestOf_in hne
    generalize bestOf (cands (bst k l) k l i u (u + 1)) = b at hm ⊢
    unfold cands at hm
    obtain ⟨t, ht, hm⟩ := List.mem_flatMap.mp hm
    obtain ⟨κ, hκ, rfl⟩ := List.mem_map.mp hm
    rw [List.mem_range] at ht hκ
    obtain ⟨a1, a2⟩ := bst_ok h1 hk l n t (i + 1) (by omega)
    obtain ⟨b1, b2⟩ := bst_ok h1 hk l n (u - t) (i + 2 + 2 * t) (by omega)
    refine ⟨?_, fun p hp => ?_⟩
    · show ([2 * κ] ++ (bst k l t (i + 1)).2 ++ [2 * κ + 1] ++ (bst k l (u - t) (i + 2 + 2 * t)).2).length = _
      simp only [List.length_append, List.length_singleton, a1, b1]
      omega
    · have hp2 : p ∈ [2 * κ] ++ (bst k l t (i + 1)).2 ++ [2 * κ + 1] ++ (bst k l (u - t) (i + 2 + 2 * t)).2 := hp
      simp only [List.mem_append, List.mem_singleton] at hp2
      rcases hp2 with ((e | e) | e) | e
      · omega
      · exact a2 p e
      · omega
      · exact b2 p e
theorem alike_ints : ∀ a b : List Int, alikeAll (a.map PyData.int) (b.map PyData.int) = true
  | [], _ => by simp [alikeAll]
  | _ :: _, [] => by simp [alikeAll]
  | x :: a, y :: b => by
    show (alike (.int x) (.int y) && alikeAll (a.map PyData.int) (b.map PyData.int)) = true
    rw [alike_ints a b]
    simp [alike]
theorem toD_alike (x y : Nat × List Nat) : alike (toD x) (toD y) = true := by
  have h := alike_ints (x.2.map fun p : Nat => (p : Int)) (y.2.map fun p : Nat => (p : Int))
  rw [List.map_map, List.map_map] at h
  show alikeAll [_, _] [_, _] = true
  show (alike (.int _) (.int _) && (alike (.list _) (.list _) && alikeAll [] [])) = true
  have h2 : alike (.list (x.2.map fun p : Nat => .int (p : Int))) (.list (y.2.map fun p : Nat => .int (p : Int))) = true := h
  rw [h2]
  simp [alike, alikeAll]
theorem alike_all (c : List (Nat × List Nat)) : AlikeAll (c.map toD) := by
  refine ⟨fun x hx y hy => ?_, fun x hx => ?_⟩
  · obtain ⟨a, _, rfl⟩ := List.mem_map.mp hx
    obtain ⟨b, _, rfl⟩ := List.mem_map.mp hy
    exact toD_alike a b
  · obtain ⟨a, _, rfl⟩ := List.mem_map.mp hx
    intro z
    cases z
theorem depth_ints : ∀ a : List Nat, PyData.depthAll (a.map fun p : Nat => .int (p : Int)) = 0
  | [] => rfl
  | x :: a => by
    show max (PyData.depth (.int _)) (PyData.depthAll (a.map fun p : Nat => .int (p : Int))) = 0
    rw [depth_ints a]
    rfl
theorem depth_toD : ∀ c : List (Nat × List Nat), PyData.depthAll (c.map toD) ≤ 60
  | [] => by show PyData.depthAll [] ≤ 60; simp [PyData.depthAll]
  | x :: c => by
    have ih := depth_toD c
    have h := depth_ints x.2
    show max (PyData.depth (toD x)) (PyData.depthAll (c.map toD)) ≤ 60
    have h1 : PyData.depth (toD x) ≤ 60 := by
      simp [toD, PyData.depth, PyData.depthAll, h]
    omega
end BR
set_option Elab.async false
set_option linter.all false
set_option maxRecDepth 100000
set_option maxHeartbeats 4000000
/-! D11: changed.py -/
namespace BR
open PySem PySem.Spec PyProof.Rows L2
section
variable {P : Program} {w : World} {K : PySem.W.Frag} {mg : Str → Option Value} {base : Heap} {f : Addr} {fd : FuncData}
def spChg : Sp := fun vs H Q _ => ∃ (l : List Nat) (i b : Nat), vs = [.str (Tx l), nI i, .str (Tx [b])] ∧ l.length ≤ 40 ∧ i < l.length ∧ Q (nI (chg l i b)) H
theorem sc_changes_at : FnScope ["row", "i", "bracket"] ["row", "i", "bracket"] (defScope s_changes_at) := ⟨rfl, rfl, rfl, by decide +kernel, rfl, by decide +kernel, by decide +kernel⟩
theorem ok_changes_at (T : Txt K mg) (F : FunP K "changes_at" "changes_at" s_changes_at f fd) : FnOk P w K mg base CX0 1 f fd ["row", "i", "bracket"] spChg := by
  refine F.ok sc_changes_at (fun vs H Q E h => ?_) (fun cdv A outer s H vs Q E hr h => ?_)
  · obtain ⟨l, i, b, rfl, _⟩ := h
    rfl
  · obtain ⟨l, i, b, rfl, hl, hi, q⟩ := h
    refine ⟨_, PSs.nox (pss_one (ps_ret (pe_callTy call_int1 (by rfl) T.b_int (by decide +kernel) (pa_cons (pe_and (pe_cmpR op_ne (pe_ix ix_str (pv 0) (pv 1) (fun _ _ => rfl)) pe_str (nomark _)) (pe_one (pe_cmpR op_ne (pe_ix ix_str (pv 0) (pv 1) (fun _ _ => rfl)) (pv 2) (nomark _)))) pa_nil)))) , ?_⟩
    have hln : (Tx l).length ≤ sizeLine := by rw [Tx_len]; exact sl_le (by omega)
    refine ⟨_, rfl, _, rfl, _, _, _, rfl, rfl, hln, at_tx (getD_at hi), rfl, _, rfl, ?_⟩
    have e63 : decide (V.str ⟨#[l.getD i 0]⟩ = V.str (Tx [63])) = decide (l.getD i 0 = 63) := sign_eq
    have eb : decide (V.str ⟨#[l.getD i 0]⟩ = V.str (Tx [b])) = decide (l.getD i 0 = b) := sign_eq
    refine iteB (fun c1 => ?_) (fun c1 => .inr ⟨_, rfl, ?_⟩)
    · refine ⟨_, rfl, _, rfl, _, _, _, rfl, rfl, hln, at_tx (getD_at hi), _, rfl, rfl, .inr ⟨_, rfl, ?_⟩⟩
      have n63 : l.getD i 0 ≠ 63 := fun z => by
        have c2 : (!decide (V.str ⟨#[l.getD i 0]⟩ = V.str (Tx [63]))) = true := c1
        rw [e63, decide_eq_true z] at c2
        cases c2
      have e : chg l i b = if l.getD i 0 = b then 0 else 1 := by
        unfold chg
        by_cases z : l.getD i 0 = b
        · rw [if_pos z, if_neg (fun y => y.2 z)]
        · rw [if_neg z, if_pos ⟨n63, z⟩]
      rw [e] at q
      rw [eb]
      by_cases z : l.getD i 0 = b
      · rw [if_pos z] at q
        rw [decide_eq_true z]
        exact q
      · rw [if_neg z] at q
        rw [decide_eq_false z]
        exact q
    · have y63 : l.getD i 0 = 63 := Decidable.byContradiction fun z => by
        have c2 : (!decide (V.str ⟨#[l.getD i 0]⟩ = V.str (Tx [63]))) = false := c1
        rw [e63, decide_eq_false z] at c2
        cases c2
      have e : chg l i b = 0 := by
        unfold chg
        rw [if_neg (fun y => y.1 y63)]
      rw [e] at q
      exact q
/-- the table of the best ways: whatever pair of places is in S has its own -/
def BT (H : Hp) (k : Nat) (l : List Nat) (S : Nat → Nat → Prop) (kvs : List (List L2.Key × V)) : Prop := ∀ i j, i ≤ l.length → j ≤ l.length → S i j → ∃ T L, valV kvs (ky i j) = some (.ref T) ∧
  H T = some (.tup [nI (bst k l ((j - i) / 2) i).1, .ref L]) ∧ H L = some (.lst ((bst k l ((j - i) / 2) i).2.map nI))
theorem BT.imp {H : Hp} {k : Nat} {l : List Nat} {S S' : Nat → Nat → Prop} {kvs : List (List L2.Key × V)} (h : BT H k l S kvs) (hs : ∀ i j, i ≤ l.length → j ≤ l.length → S' i j → S i j) : BT H k l S' kvs := fun i j hi hj z => h i j hi hj (hs i j hi hj z)
theorem BT.same {H H' : Hp} {d : Addr} {kv0 : List (List L2.Key × V)} {k : Nat} {l : List Nat} {S : Nat → Nat → Prop} {kvs : List (List L2.Key × V)} (h : BT H k l S kvs) (e : H d = some (.dT kv0)) (s : SameX d H H') : BT H' k l S kvs := fun i j hi hj z => by
  obtain ⟨T, L, h1, h2, h3⟩ := h i j hi hj z
  exact ⟨T, L, h1, s _ _ (ne_of h2 e (by intro z; cases z)) h2, s _ _ (ne_of h3 e (by intro z; cases z)) h3⟩
theorem BT.put {H : Hp} {k : Nat} {l : List Nat} {S : Nat → Nat → Prop} {kvs : List (List L2.Key × V)} (h : BT H k l S kvs) {a b : Nat} {T L : Addr} (h2 : H T = some (.tup [nI (bst k l ((b - a) / 2) a).1, .ref L])) (h3 : H L = some (.lst ((bst k l ((b - a) / 2) a).2.map nI))) :
    BT H k l (fun i j => S i j ∨ (i = a ∧ j = b)) (putK kvs (ky a b) (.ref T)) := fun i j hi hj z => by
  by_cases e : ky i j = ky a b
  · obtain ⟨rfl, rfl⟩ := ky_inj e
    exact ⟨T, L, by rw [valV_put, if_pos rfl], h2, h3⟩
  · rcases z with z | ⟨rfl, rfl⟩
    · obtain ⟨T', L', h1, h2, h3⟩ := h i j hi hj z
      exact ⟨T', L', by rw [valV_put, if_neg e]; exact h1, h2, h3⟩
    · exact absurd rfl e
/-- what stands at a candidate's address, apart from S -/
def CAt (S : Addr) (H : Hp) (c : Nat × List Nat) (T : Addr) : Prop := ∃ L, L ≠ S ∧ T ≠ S ∧ H T = some (.tup [nI c.1, .ref L]) ∧ H L = some (.lst (c.2.map nI))
theorem CAt.same {S : Addr} {H H' : Hp} {c : Nat × List Nat} {T : Addr} (h : CAt S H c T) (s : SameX S H H') : CAt S H' c T := by
  obtain ⟨L, n1, n2, h1, h2⟩ := h
  exact ⟨L, n1, n2, s _ _ n2 h1, s _ _ n1 h2⟩
/-- candidates at their addresses -/
def CsAt (S : Addr) (H : Hp) : List (Nat × List Nat) → List Addr → Prop
  | [], [] => True
  | c :: cs, T :: Ts => CAt S H c T ∧ CsAt S H cs Ts
  | _, _ => False
theorem CsAt.len {S : Addr} {H : Hp} : ∀ {cs : List (Nat × List Nat)} {Ts : List Addr}, CsAt S H cs Ts → cs.length = Ts.length
  | [], [], _ => rfl
  | c :: cs, T :: Ts, h => by
    rw [List.length_cons, List.length_cons, CsAt.len h.2]
  | [], _ :: _, h => h.elim
  | _ :: _, [], h => h.elim
theorem CsAt.same {S : Addr} {H H' : Hp} (s : SameX S H H') : ∀ {cs : List (Nat × List Nat)} {Ts : List Addr}, CsAt S H cs Ts → CsAt S H' cs Ts
  | [], [], _ => trivial
  | c :: cs, T :: Ts, h => ⟨h.1.same s, CsAt.same s h.2⟩
  | [], _ :: _, h => h.elim
  | _ :: _, [], h => h.elim
theorem CsAt.snoc {S : Addr} {H : Hp} {c : Nat × List Nat} {T : Addr} (h2 : CAt S H c T) : ∀ {cs : List (Nat × List Nat)} {Ts : List Addr}, CsAt S H cs Ts → CsAt S H (cs ++ [c]) (Ts ++ [T])
  | [], [], _ => ⟨h2, trivial⟩
  | _ :: _, _ :: _, h => ⟨h.1, CsAt.snoc h2 h.2⟩
  | [], _ :: _, h => h.elim
  | _ :: _, [], h => h.elim
theorem CsAt.get {S : Addr} {H : Hp} : ∀ {cs : List (Nat × List Nat)} {Ts : List Addr} {i : Nat} {c : Nat × List Nat}, CsAt S H cs Ts → cs[i]? = some c → ∃ T, Ts[i]? = some T ∧ CAt S H c T
  | c :: cs, T :: Ts, 0, c', h, e => by
    cases e
    exact ⟨T, rfl, h.1⟩
  | c :: cs, T :: Ts, i + 1, c', h, e => CsAt.get (cs := cs) (Ts := Ts) (i := i) h.2 e
  | [], [], i, c', h, e => by simp at e
  | [], _ :: _, _, _, h, _ => h.elim
  | _ :: _, [], _, _, h, _ => h.elim
theorem dp_ints {K : PySem.W.Frag} {H : Hp} : ∀ l : List Nat, DpAll K H (l.map nI) (l.map fun p : Nat => .int (p : Int))
  | [] => .nil
  | x :: l => .cons (.int _) (dp_ints l)
theorem CsAt.dp {K : PySem.W.Frag} {S : Addr} {H : Hp} : ∀ {cs : List (Nat × List Nat)} {Ts : List Addr}, CsAt S H cs Ts → DpAll K H (Ts.map V.ref) (cs.map toD)
  | [], [], _ => .nil
  | c :: cs, T :: Ts, h => by
    obtain ⟨⟨L, _, _, h1, h2⟩, h3⟩ := h
    exact .cons (.tup (SqT.of h1) (.cons (.int _) (.cons (.lst (.inl (.inl h2)) (dp_ints c.2)) .nil))) (CsAt.dp h3)
  | [], _ :: _, h => h.elim
  | _ :: _, [], h => h.elim
theorem BT.write {H : Hp} {d : Addr} {k : Nat} {l : List Nat} {S : Nat → Nat → Prop} {kv : List (List L2.Key × V)} (h : BT H k l S kv) (e : H d = some (.dT kv)) {a b : Nat} {T L : Addr} (h2 : H T = some (.tup [nI (bst k l ((b - a) / 2) a).1, .ref L])) (h3 : H L = some (.lst ((bst k l ((b - a) / 2) a).2.map nI))) :
    BT (upd H d (.dT (putK kv (ky a b) (.ref T)))) k l (fun i j => S i j ∨ (i = a ∧ j = b)) (putK kv (ky a b) (.ref T)) := (h.put h2 h3).same e same_x
def spFewest : Sp := fun vs H Q _ => ∃ (k : Nat) (l : List Nat), vs = [.int k, .str (Tx l)] ∧ 1 ≤ k ∧ k ≤ 4 ∧ rowBy k l = true ∧ (l.length % 2 = 1 → ∀ H', Same H H' → Q .non H') ∧
  (l.length % 2 = 0 → ∀ H' T, Same H H' → H T = none → H' T = some (.tup [nI (bst k l (l.length / 2) 0).1, .str (Tx ((bst k l (l.length / 2) 0).2.map br))]) → Q (.ref T) H')
theorem sc_fewest_changes : FnScope ["k", "row", "many", "best", "i", "j", "some", "m", "inner", "behind", "kind", "one", "other", "number", "places", "place"] ["k", "row"] (defScope s_fewest_changes) := ⟨rfl, rfl, rfl, by decide +kernel, rfl, by decide +kernel, by decide +kernel⟩
theorem ok_fewest_changes (T : Txt K mg) (F : FunP K "fewest_changes" "fewest_changes" s_fewest_changes f fd) (g_need_line : Dk P w K mg base CX0 3 "need_line" ["k", "row"] spNeedLine) (g_changes_at : Dk P w K mg base CX0 1 "changes_at" ["row", "i", "bracket"] spChg) :
    FnOk P w K mg base CX0 4 f fd ["k", "row"] spFewest := by
  refine F.ok sc_fewest_changes (fun vs H Q E h => ?_) (fun cdv A outer s H vs Q E hr h => ?_)
  · obtain ⟨k, l, rfl, _⟩ := h
    rfl
  · obtain ⟨k, l, rfl, hk1, hk, hb, q1, q0⟩ := h
    have hu := hu_of hr
    refine ⟨_, PSs.nox (pss_cons (ps_expr (g_need_line.call hr pass0 (pa_cons (pv 0) (pa_cons (pv 1) pa_nil))))
       (pss_cons (ps_set (i := 2) sc_fewest_changes.nd rfl (.inl rfl) (pe_callB call_len_str (by rfl) T.b_len (by decide +kernel) (pa_cons (pv 1) pa_nil)))
       (pss_cons (ps_if (pt_cmpR op_eq (pe_op op_mod (pv 2) pe_int) pe_int (nomark _))
        (pss_one (ps_ret pe_non))
        pss_nil)
       (pss_cons (ps_set (i := 3) sc_fewest_changes.nd rfl (.inl rfl) pe_dnewT)
       (pss_cons (ps_for PassesOwn.never rfl (pi_range3 rfl T.b_range (pa_cons (pv 2) (pa_cons (pe_un un_neg pe_int) (pa_cons (pe_un un_neg pe_int) pa_nil)))) (pg_name (i := 4) sc_fewest_changes.nd rfl (.inl rfl))
        (pss_cons (ps_dput hu (pv 3) (pe_tup (pa_cons (pv 4) (pa_cons (pv 4) pa_nil))) (pe_tup (pa_cons pe_int (pa_cons (pe_lst pa_nil) pa_nil))) rfl)
       (pss_one (ps_for PassesOwn.never rfl (pi_range3 rfl T.b_range (pa_cons (pe_op op_add (pv 4) pe_int) (pa_cons (pe_op op_add (pv 2) pe_int) (pa_cons pe_int pa_nil)))) (pg_name (i := 5) sc_fewest_changes.nd rfl (.inl rfl))
        (pss_cons (ps_set (i := 6) sc_fewest_changes.nd rfl (.inl rfl) (pe_lst pa_nil))
       (pss_cons (ps_for PassesOwn.never rfl (pi_range3 rfl T.b_range (pa_cons (pe_op op_add (pv 4) pe_int) (pa_cons (pv 5) (pa_cons pe_int pa_nil)))) (pg_name (i := 7) sc_fewest_changes.nd rfl (.inl rfl))
        (pss_cons (ps_par (i := 8) (j := 9) rfl sc_fewest_changes.nd rfl rfl (by decide) rfl rfl (pa_cons (pe_dget hu (pv 3) (pe_tup (pa_cons (pe_op op_add (pv 4) pe_int) (pa_cons (pv 7) pa_nil))) (fun _ _ => rfl)) (pa_cons (pe_dget hu (pv 3) (pe_tup (pa_cons (pe_op op_add (pv 7) pe_int) (pa_cons (pv 5) pa_nil))) (fun _ _ => rfl)) pa_nil)) (by rfl))
       (pss_one (ps_for PassesOwn.never rfl (pi_range1 rfl T.b_range (pa_cons (pv 0) pa_nil)) (pg_name (i := 10) sc_fewest_changes.nd rfl (.inl rfl))
        (pss_cons (ps_par (i := 11) (j := 12) rfl sc_fewest_changes.nd rfl rfl (by decide) rfl rfl (pa_cons (pe_op op_mul pe_int (pv 10)) (pa_cons (pe_op op_add (pe_op op_mul pe_int (pv 10)) pe_int) pa_nil)) (by rfl))
       (pss_cons (ps_set (i := 13) sc_fewest_changes.nd rfl (.inl rfl) (pe_op op_add (g_changes_at.call hr pass0 (pa_cons (pv 1) (pa_cons (pv 4) (pa_cons (pe_ix ix_str (pe_gS T.c_BRACKETS) (pv 11) (fun _ _ => rfl)) pa_nil)))) (g_changes_at.call hr pass0 (pa_cons (pv 1) (pa_cons (pv 7) (pa_cons (pe_ix ix_str (pe_gS T.c_BRACKETS) (pv 12) (fun _ _ => rfl)) pa_nil))))))
       (pss_cons (ps_set (i := 14) sc_fewest_changes.nd rfl (.inl rfl) (pe_op op_cat (pe_op op_cat (pe_op op_cat (pe_lst (pa_cons (pv 11) pa_nil)) (pe_ix ix_tup (pv 8) pe_int (fun _ _ => rfl))) (pe_lst (pa_cons (pv 12) pa_nil))) (pe_ix ix_tup (pv 9) pe_int (fun _ _ => rfl))))
       (pss_one (ps_expr (pe_bm PySem.F.plainAttrs_list PySem.F.slot_list_append PySem.F.type_list_append mt_append (pv 6) (pa_cons (pe_tup (pa_cons (pe_op op_add (pe_op op_add (pv 13) (pe_ix ix_tup (pv 8) pe_int (fun _ _ => rfl))) (pe_ix ix_tup (pv 9) pe_int (fun _ _ => rfl))) (pa_cons (pv 14) pa_nil))) pa_nil)))))))))))
       (pss_one (ps_dput hu (pv 3) (pe_tup (pa_cons (pv 4) (pa_cons (pv 5) pa_nil))) (pe_callB (cr_minT rfl hr.units) (by rfl) T.b_min (by decide +kernel) (pa_cons (pv 6) pa_nil)) rfl))))))))
       (pss_cons (ps_asg (pe_dget hu (pv 3) (pe_tup (pa_cons pe_int (pa_cons (pv 2) pa_nil))) (fun _ _ => rfl)) (pg_tup (by rfl) (pgs_cons (pg_name (i := 13) sc_fewest_changes.nd rfl (.inl rfl)) (pgs_cons (pg_name (i := 14) sc_fewest_changes.nd rfl (.inl rfl)) pgs_nil))))
       (pss_one (ps_ret (pe_tup (pa_cons (pv 13) (pa_cons (pe_join pe_str (pe_lc (own := [("place", 15)]) (g := (gName 15)) (tt := _) (by rfl) sc_fewest_changes.nd (pi_list (pv 14)) (blkOk_by (own := [("place", 15)]) (N := ["k", "row", "many", "best", "i", "j", "some", "m", "inner", "behind", "kind", "one", "other", "number", "places", "place"]) (sc := defScope s_fewest_changes) (by decide +kernel)) (fun _ _ _ _ _ => (pg_name (i := 15) sc_fewest_changes.nd rfl (.inl rfl))) (fun _ _ _ _ _ => pts_nil) (fun _ _ _ _ _ => (pe_ix ix_str (pe_gS T.c_BRACKETS) (pv 15) (fun _ _ => rfl))))) pa_nil))))))))))) , ?_⟩
    have hl := rowBy_len hb
    have hln : (Tx l).length ≤ sizeLine := by rw [Tx_len]; exact sl_le (by omega)
    refine ⟨_, rfl, _, rfl, k, l, rfl, hk1, hk, (Sg.of hb).as, hb, fun H1 s1 => ?_⟩
    refine ⟨_, rfl, _, rfl, hln, ?_⟩
    rw [Tx_len]
    refine ⟨_, rfl, _, _, rfl, rfl, by show (0 : Int) < 2; decide, rfl, _, rfl, ?_⟩
    have e1 : decide (V.int ((l.length : Int) % 2) = V.int 1) = decide (l.length % 2 = 1) := by
      refine decide_eq_decide.mpr ⟨fun z => ?_, fun z => ?_⟩
      · have := V.int.inj z
        omega
      · congr 1
        omega
    rw [e1]
    refine iteB (fun c1 => q1 (of_decide_eq_true c1) _ s1) (fun c1 => ?_)
    have hev : l.length % 2 = 0 := by
      have := of_decide_eq_false c1
      omega
    obtain ⟨n, hn⟩ : ∃ n, n = l.length := ⟨_, rfl⟩
    have hn40 : n ≤ 40 := by omega
    rw [← hn]
    refine fun d hd => ?_
    have s2 : Same H (upd H1 d (.dT [])) := s1.trans (same_upd hd)
    have hHd : H d = none := s1.free hd
    -- for i in range(many, -1, -1)
    refine ⟨_, rfl, 1, rfl, 1, rfl, (n : Int), -1, -1, n + 1, rfl, rg_dn (by omega), ?_⟩
    refine for_it walk_rangeC (fun i σ H' => ∃ y4 y5 y6 y7 y8 y9 y10 y11 y12 y13 y14 y15 kvs, σ = [some (.int k), some (.str (Tx l)), some (.int n), some (.ref d), y4, y5, y6, y7, y8, y9, y10, y11, y12, y13, y14, y15] ∧ SameX d H H' ∧ H' d = some (.dT kvs) ∧
        BT H' k l (TIn (n + 1 - i) 0) kvs ∧ kvs.length ≤ 50 * i)
      ⟨none, none, none, none, none, none, none, none, none, none, none, none, [], rfl, sameX s2, upd_same, ?_, Nat.le_refl _⟩ (fun _ _ _ _ _ => trivial) (fun i x σ H2 H3 hi hP hY => ?_) (fun σ H2 hP => ?_)
    · intro i j hi hj z
      unfold TIn at z
      omega
    · obtain ⟨y4, y5, y6, y7, y8, y9, y10, y11, y12, y13, y14, y15, kvs, rfl, s3, e3, tb, hlk⟩ := hP
      obtain ⟨rfl, hx⟩ := hY
      obtain ⟨b, hb⟩ : ∃ b, b = n - i := ⟨_, rfl⟩
      have hx' : x = nI b := hx.trans (congrArg V.int (show (n : Int) + ((i : Nat) : Int) * (-1) = (b : Int) by omega))
      subst hx'
      clear hx
      rw [show n + 1 - i = b + 1 by omega] at tb
      -- best[i, i] = (0, [])
      refine ⟨Nat.zero_le _, fun L hL => ⟨by show 2 ≤ sizeLine; decide, fun T hT => ⟨_, rfl, _, rfl, _, rfl, by show 2 ≤ sizeLine; decide, fun p hp => ?_⟩⟩⟩
      obtain ⟨H4, hH4⟩ : ∃ H4, H4 = upd (upd (upd H3 L (.lst [])) T (.tup [.int 0, .ref L])) p (.tup [nI b, nI b]) := ⟨_, rfl⟩
      have s4 : Same H3 H4 := by
        rw [hH4]
        exact ((same_upd hL).trans (same_upd hT)).trans (same_upd hp)
      have e4 := s4 _ _ e3
      have eL4 : H4 L = some (.lst []) := by
        rw [hH4]
        exact same_upd hp _ _ (same_upd hT _ _ upd_same)
      have eT4 : H4 T = some (.tup [nI 0, .ref L]) := by
        rw [hH4]
        exact same_upd hp _ _ upd_same
      have ep4 : H4 p = some (.tup [nI b, nI b]) := by
        rw [hH4]
        exact upd_same
      refine ⟨d, _, rfl, DPut.t (k := ky b b) (by rw [← hH4]; exact e4) upd_same (sl_lt (by omega)), ?_⟩
      rw [← hH4]
      clear hH4
      have tb4 := (tb.same e3 (sameX s4)).write e4 (a := b) (b := b) (T := T) (L := L) (by rw [Nat.sub_self]; exact eT4) (by rw [Nat.sub_self]; exact eL4)
      have tb5 := tb4.imp (S' := TIn (b + 1) (b + 1)) fun i j _ _ z => by
        unfold TIn at z ⊢
        omega
      have hl5 : (putK kvs (ky b b) (V.ref T)).length ≤ 50 * i + 1 := Nat.le_trans (putK_ln _ _ _) (by omega)
      have s5 : SameX d H (upd H4 d (.dT (putK kvs (ky b b) (V.ref T)))) := (s3.trans (sameX s4)).up
      have e5 : (upd H4 d (.dT (putK kvs (ky b b) (V.ref T)))) d = some (.dT (putK kvs (ky b b) (V.ref T))) := upd_same
      clear tb4
      generalize upd H4 d (.dT (putK kvs (ky b b) (V.ref T))) = H5 at s5 e5 tb5 ⊢
      generalize putK kvs (ky b b) (V.ref T) = kv5 at e5 tb5 hl5 ⊢
      -- for j in range(i + 2, many + 1, 2)
      refine ⟨_, rfl, _, _, rfl, rfl, _, rfl, _, _, rfl, rfl, ((b + 2 : Nat) : Int), ((n + 1 : Nat) : Int), 2, (n + 1 - (b + 2) + 1) / 2, rfl, rg_two (by omega) (by omega), ?_⟩
      refine for_it walk_rangeC (fun u σ H' => ∃ y5 y6 y7 y8 y9 y10 y11 y12 y13 y14 y15 kv, σ = [some (.int k), some (.str (Tx l)), some (.int n), some (.ref d), some (nI b), y5, y6, y7, y8, y9, y10, y11, y12, y13, y14, y15] ∧ SameX d H H' ∧ H' d = some (.dT kv) ∧
          BT H' k l (TIn (b + 1) (b + 1 + 2 * u)) kv ∧ kv.length ≤ 50 * i + 1 + u)
        ⟨y5, y6, y7, y8, y9, y10, y11, y12, y13, y14, y15, kv5, rfl, s5, e5, tb5, hl5⟩ (fun _ _ _ _ _ => trivial) (fun u x σ H6 H7 hu' hP hY => ?_) (fun σ H6 hP => ?_)
      · obtain ⟨y5, y6, y7, y8, y9, y10, y11, y12, y13, y14, y15, kv, rfl, s6, e6, tb6, hl6⟩ := hP
        obtain ⟨rfl, hx⟩ := hY
        have hx' : x = nI (b + 2 + 2 * u) := hx.trans (congrArg V.int (show ((b + 2 : Nat) : Int) + ((u : Nat) : Int) * 2 = ((b + 2 + 2 * u : Nat) : Int) by omega))
        subst hx'
        clear hx
        -- some = []
        refine ⟨Nat.zero_le _, fun S hS => ?_⟩
        have dS : d ≠ S := ne_of_none e6 hS
        -- for m in range(i + 1, j, 2)
        refine ⟨_, rfl, _, _, rfl, rfl, _, rfl, ((b + 1 : Nat) : Int), ((b + 2 + 2 * u : Nat) : Int), 2, (b + 2 + 2 * u - (b + 1) + 1) / 2, rfl, rg_two (by omega) (by omega), ?_⟩
        refine for_it walk_rangeC (fun t σ H' => ∃ (y7 y8 y9 y10 y11 y12 y13 y14 y15 : Option V) (Ts : List Addr), σ = [some (.int k), some (.str (Tx l)), some (.int n), some (.ref d), some (nI b), some (nI (b + 2 + 2 * u)), some (.ref S), y7, y8, y9, y10, y11, y12, y13, y14, y15] ∧ Same H7 H' ∧ H' S = some (.lst (Ts.map V.ref)) ∧
            CsAt S H' (cands (bst k l) k l b u t) Ts)
          ⟨y7, y8, y9, y10, y11, y12, y13, y14, y15, [], rfl, same_upd hS, upd_same, trivial⟩ (fun _ _ _ _ _ => trivial) (fun t x σ H8 H9 ht hP hY => ?_) (fun σ H8 hP => ?_)
        · obtain ⟨y7, y8, y9, y10, y11, y12, y13, y14, y15, Ts, rfl, s8, eS8, cs8⟩ := hP
          obtain ⟨rfl, hx⟩ := hY
          have hx' : x = nI (b + 1 + 2 * t) := hx.trans (congrArg V.int (show ((b + 1 : Nat) : Int) + ((t : Nat) : Int) * 2 = ((b + 1 + 2 * t : Nat) : Int) by omega))
          subst hx'
          clear hx
          have htu : t ≤ u := by omega
          have e9 := s8 _ _ e6
          obtain ⟨T1, L1, g1, eT1, eL1⟩ := tb6 (b + 1) (b + 1 + 2 * t) (by omega) (by omega) ⟨.inl (by omega), by omega, by omega⟩
          obtain ⟨T2, L2, g2, eT2, eL2⟩ := tb6 (b + 1 + 2 * t + 1) (b + 2 + 2 * u) (by omega) (by omega) ⟨.inl (by omega), by omega, by omega⟩
          rw [show (b + 1 + 2 * t - (b + 1)) / 2 = t by omega] at eT1 eL1
          rw [show (b + 2 + 2 * u - (b + 1 + 2 * t + 1)) / 2 = u - t by omega, show b + 1 + 2 * t + 1 = b + 2 + 2 * t by omega] at eT2 eL2
          refine ⟨_, rfl, _, rfl, _, _, rfl, rfl, _, rfl, by show 2 ≤ sizeLine; decide, fun p1 hp1 => ⟨d, _, rfl, dget_t (k := ky (b + 1) (b + 1 + 2 * t)) (same_upd hp1 _ _ e9) upd_same g1, ?_⟩⟩
          refine ⟨_, rfl, _, rfl, _, _, rfl, rfl, _, rfl, by show 2 ≤ sizeLine; decide, fun p2 hp2 => ⟨d, _, rfl, dget_t (k := ky (b + 1 + 2 * t + 1) (b + 2 + 2 * u)) (same_upd hp2 _ _ (same_upd hp1 _ _ e9)) upd_same g2, _, _, rfl, ?_⟩⟩
          have sK := (same_upd (o := .tup [nI (b + 1), nI (b + 1 + 2 * t)]) hp1).trans (same_upd (o := .tup [nI (b + 1 + 2 * t + 1), nI (b + 2 + 2 * u)]) hp2)
          have eSK := sK _ _ eS8
          have csK := cs8.same (sameX sK)
          have sK7 := s8.trans sK
          have nT1 : T1 ≠ S := ne_of_none eT1 hS
          have nL1 : L1 ≠ S := ne_of_none eL1 hS
          have nT2 : T2 ≠ S := ne_of_none eT2 hS
          have nL2 : L2 ≠ S := ne_of_none eL2 hS
          have eT1 := sK7 _ _ eT1
          have eL1 := sK7 _ _ eL1
          have eT2 := sK7 _ _ eT2
          have eL2 := sK7 _ _ eL2
          -- for kind in range(k)
          refine ⟨_, rfl, _, rfl, by omega, by omega, ?_⟩
          rw [show (k : Int).toNat = k by omega]
          refine for_it walk_range (fun κ σ H' => ∃ (y10 y11 y12 y13 y14 y15 : Option V) (Ts : List Addr), σ = [some (.int k), some (.str (Tx l)), some (.int n), some (.ref d), some (nI b), some (nI (b + 2 + 2 * u)), some (.ref S), some (nI (b + 1 + 2 * t)), some (.ref T1), some (.ref T2), y10, y11, y12, y13, y14, y15] ∧
              Same H7 H' ∧ H' S = some (.lst (Ts.map V.ref)) ∧ CsAt S H' (cands (bst k l) k l b u t ++ (List.range κ).map (cand (bst k l) l b u t)) Ts ∧ H' T1 = some (.tup [nI (bst k l t (b + 1)).1, .ref L1]) ∧ H' L1 = some (.lst ((bst k l t (b + 1)).2.map nI)) ∧
              H' T2 = some (.tup [nI (bst k l (u - t) (b + 2 + 2 * t)).1, .ref L2]) ∧ H' L2 = some (.lst ((bst k l (u - t) (b + 2 + 2 * t)).2.map nI)))
            ⟨y10, y11, y12, y13, y14, y15, Ts, rfl, sK7, eSK, by rw [List.range_zero, List.map_nil, List.append_nil]; exact csK, eT1, eL1, eT2, eL2⟩ (fun _ _ _ _ _ => trivial) (fun κ x σ HA HB hκ hP hY => ?_) (fun σ HA hP => ?_)
          · obtain ⟨y10, y11, y12, y13, y14, y15, Ts2, rfl, sA, eSA, csA, eT1, eL1, eT2, eL2⟩ := hP
            obtain ⟨rfl, hx⟩ := hY
            have hx' : x = nI κ := hx.trans (congrArg V.int (Int.zero_add _))
            subst hx'
            clear hx
            obtain ⟨z1, _⟩ := bst_ok hk1 hk l t t (b + 1) (Nat.le_refl _)
            obtain ⟨z2, _⟩ := bst_ok hk1 hk l (u - t) (u - t) (b + 2 + 2 * t) (Nat.le_refl _)
            have hbm : b + 1 + 2 * t < l.length := by omega
            have hln8 : (Tx lBR).length ≤ sizeLine := by decide
            -- one, other
            refine ⟨_, rfl, _, _, rfl, rfl, .inl ⟨by decide, by decide⟩, _, rfl, _, _, rfl, rfl, .inl ⟨by decide, by decide⟩, _, _, rfl, rfl, nI (2 * κ), nI (2 * κ + 1), rfl, ?_⟩
            -- number
            refine ⟨_, rfl, _, rfl, _, rfl, _, _, _, rfl, rfl, hln8, at_tx (br_at (i := 2 * κ) (by omega)), l, b, br (2 * κ), rfl, hl, by omega, _, rfl, _, rfl, _, rfl, _, _, _, rfl, rfl, hln8, at_tx (br_at (i := 2 * κ + 1) (by omega)), l, b + 1 + 2 * t, br (2 * κ + 1), rfl, hl, hbm, _, _, rfl, rfl, ?_⟩
            -- places
            refine ⟨_, rfl, by show 1 ≤ sizeLine; decide, fun A1 hA1 => ?_⟩
            have a1 := same_upd (o := .lst [nI (2 * κ)]) hA1
            refine ⟨_, rfl, T1, _, _, _, rfl, rfl, SqT.of (a1 _ _ eT1), atI_nat (j := 1) rfl, A1, L1, _, _, rfl, rfl, upd_same, a1 _ _ eL1, by rw [List.length_map, z1]; exact sl_le (by show 1 + _ ≤ _; omega), fun A2 hA2 => ?_⟩
            have a2 := a1.trans (same_upd (o := .lst ([nI (2 * κ)] ++ (bst k l t (b + 1)).2.map nI)) hA2)
            refine ⟨_, rfl, by show 1 ≤ sizeLine; decide, fun A3 hA3 => ?_⟩
            have a3 := same_upd (o := .lst [nI (2 * κ + 1)]) hA3
            refine ⟨A2, A3, _, _, rfl, rfl, a3 _ _ upd_same, upd_same, by rw [List.length_append, List.length_map, z1]; exact sl_le (by show 1 + _ + 1 ≤ _; omega), fun A4 hA4 => ?_⟩
            have a4 := (a2.trans a3).trans (same_upd (o := .lst ([nI (2 * κ)] ++ (bst k l t (b + 1)).2.map nI ++ [nI (2 * κ + 1)])) hA4)
            refine ⟨_, rfl, T2, _, _, _, rfl, rfl, SqT.of (a4 _ _ eT2), atI_nat (j := 1) rfl, A4, L2, _, _, rfl, rfl, upd_same, a4 _ _ eL2, by rw [List.length_append, List.length_append, List.length_map, List.length_map, z1, z2]; exact sl_le (by show 1 + _ + 1 + _ ≤ _; omega), fun A5 hA5 => ?_⟩
            have a5 := a4.trans (same_upd (o := .lst ([nI (2 * κ)] ++ (bst k l t (b + 1)).2.map nI ++ [nI (2 * κ + 1)] ++ (bst k l (u - t) (b + 2 + 2 * t)).2.map nI)) hA5)
            -- some.append(..)
            have eS5 := a5 _ _ eSA
            refine ⟨_, rfl, tyL eS5, _, rfl, _, rfl, T1, _, _, _, rfl, rfl, SqT.of (a5 _ _ eT1), atI_nat (j := 0) rfl, _, _, rfl, rfl, _, rfl, T2, _, _, _, rfl, rfl, SqT.of (a5 _ _ eT2), atI_nat (j := 0) rfl, _, _, rfl, rfl, _, rfl, by show 2 ≤ sizeLine; decide, fun TT hTT => ?_⟩
            have hS5 : H7 S = none := hS
            have hcl := csA.len
            have hlen : (cands (bst k l) k l b u t ++ (List.range κ).map (cand (bst k l) l b u t)).length ≤ 200 := by
              rw [List.length_append, cands_len, List.length_map, List.length_range]
              have := Nat.mul_le_mul (show t ≤ 40 by omega) hk
              omega
            have nTT : S ≠ TT := ne_of_none eS5 hTT
            have nA5 : A5 ≠ S := fun z => by
              have := (a4 _ _ eSA)
              rw [← z, hA5] at this
              cases this
            have a6 := a5.trans (same_upd (o := .tup [V.int (((chg l b (br (2 * κ)) : Int) + (chg l (b + 1 + 2 * t) (br (2 * κ + 1)) : Int)) + ((bst k l t (b + 1)).1 : Int) + ((bst k l (u - t) (b + 2 + 2 * t)).1 : Int)), V.ref A5]) hTT)
            refine ⟨S, _, _, rfl, rfl, same_upd hTT _ _ eS5, by rw [List.length_map]; exact sl_lt (by omega), ?_⟩
            have eA5 := same_upd (o := .tup [V.int (((chg l b (br (2 * κ)) : Int) + (chg l (b + 1 + 2 * t) (br (2 * κ + 1)) : Int)) + ((bst k l t (b + 1)).1 : Int) + ((bst k l (u - t) (b + 2 + 2 * t)).1 : Int)), V.ref A5]) hTT A5 _ upd_same
            refine ⟨some (nI κ), some (nI (2 * κ)), some (nI (2 * κ + 1)), _, some (.ref A5), y15, Ts2 ++ [TT], rfl, Same.upn (sA.trans a6) hS, ?_, ?_, ?_, ?_, ?_, ?_⟩
            · rw [upd_same, List.map_append]
              rfl
            · rw [List.range_succ, List.map_append, ← List.append_assoc]
              refine CsAt.snoc ⟨A5, nA5, nTT.symm, ?_, ?_⟩ ((csA.same (sameX a6)).same same_x)
              · rw [upd_ne nTT.symm, upd_same]
                rfl
              · rw [upd_ne nA5]
                refine eA5.trans ?_
                have ec : (cand (bst k l) l b u t κ).2 = [2 * κ] ++ (bst k l t (b + 1)).2 ++ [2 * κ + 1] ++ (bst k l (u - t) (b + 2 + 2 * t)).2 := rfl
                rw [ec, List.map_append, List.map_append, List.map_append]
                rfl
            · rw [upd_ne nT1]
              exact a6 _ _ eT1
            · rw [upd_ne nL1]
              exact a6 _ _ eL1
            · rw [upd_ne nT2]
              exact a6 _ _ eT2
            · rw [upd_ne nL2]
              exact a6 _ _ eL2
          · obtain ⟨y10, y11, y12, y13, y14, y15, Ts2, rfl, sA, eSA, csA, _⟩ := hP
            refine ⟨_, _, _, _, _, _, _, _, _, Ts2, rfl, sA, eSA, ?_⟩
            rw [cands_succ]
            exact csA
        · obtain ⟨y7, y8, y9, y10, y11, y12, y13, y14, y15, Ts, rfl, s8, eS8, cs8⟩ := hP
          rw [show (b + 2 + 2 * u - (b + 1) + 1) / 2 = u + 1 by omega] at cs8
          have hne : cands (bst k l) k l b u (u + 1) ≠ [] := fun z => by
            have h0 := cands_len (g := bst k l) (k := k) (l := l) (i := b) (u := u) (u + 1)
            have h3 : 0 < (u + 1) * k := Nat.mul_pos (by omega) (by omega)
            rw [z] at h0
            have h4 : 0 = (u + 1) * k := h0
            omega
          have hbest : (cands (bst k l) k l b u (u + 1))[least ((cands (bst k l) k l b u (u + 1)).map toD)]? = some (bst k l (u + 1) b) := by
            rw [bst_succ]
            have h1 : least ((cands (bst k l) k l b u (u + 1)).map toD) < ((cands (bst k l) k l b u (u + 1)).map toD).length := least_lt fun z => hne (List.map_eq_nil_iff.mp z)
            rw [List.length_map] at h1
            unfold bestOf
            rw [List.getD_eq_getElem?_getD, List.getElem?_eq_getElem h1]
            rfl
          obtain ⟨T0, hT0, L0, _, _, eT0, eL0⟩ := cs8.get hbest
          -- best[i, j] = min(some)
          refine ⟨_, rfl, S, Ts.map V.ref, _, rfl, .inl (.inl eS8), cs8.dp, fun z => hne (List.map_eq_nil_iff.mp z), alike_all _, depth_toD _, fun x hx => ?_⟩
          rw [List.getElem?_map, hT0] at hx
          obtain rfl : V.ref T0 = x := Option.some.inj hx
          refine ⟨_, rfl, _, rfl, _, rfl, by show 2 ≤ sizeLine; decide, fun p hp => ?_⟩
          have a1 := s8.trans (same_upd (o := .tup [nI b, nI (b + 2 + 2 * u)]) hp)
          have a2 := same_upd (o := .tup [nI b, nI (b + 2 + 2 * u)]) hp
          refine ⟨d, _, rfl, DPut.t (k := ky b (b + 2 + 2 * u)) (a1 _ _ e6) upd_same (sl_lt (by omega)), ?_⟩
          refine ⟨_, _, _, _, _, _, _, _, _, _, _, putK kv (ky b (b + 2 + 2 * u)) (.ref T0), rfl, (s6.trans (sameX a1)).up, upd_same, ?_, Nat.le_trans (putK_ln _ _ _) (by omega)⟩
          have eu : (b + 2 + 2 * u - b) / 2 = u + 1 := by omega
          refine ((tb6.same e6 (sameX a1)).write (a1 _ _ e6) (a := b) (b := b + 2 + 2 * u) (T := T0) (L := L0) (by rw [eu]; exact a2 _ _ eT0) (by rw [eu]; exact a2 _ _ eL0)).imp fun i j _ _ z => ?_
          unfold TIn at z ⊢
          omega
      · obtain ⟨y5, y6, y7, y8, y9, y10, y11, y12, y13, y14, y15, kv, rfl, s6, e6, tb6, hl6⟩ := hP
        refine ⟨_, _, _, _, _, _, _, _, _, _, _, _, kv, rfl, s6, e6, tb6.imp fun i' j hi' hj z => ?_, by omega⟩
        unfold TIn at z ⊢
        omega
    · obtain ⟨y4, y5, y6, y7, y8, y9, y10, y11, y12, y13, y14, y15, kvs, rfl, s3, e3, tb, hlk⟩ := hP
      obtain ⟨T0, L0, g0, eT0, eL0⟩ := tb 0 n (by omega) (by omega) (by unfold TIn; omega)
      rw [show (n - 0) / 2 = n / 2 by omega] at eT0 eL0
      obtain ⟨z1, z2⟩ := bst_ok hk1 hk l (n / 2) (n / 2) 0 (Nat.le_refl _)
      -- number, places = best[0, many]
      refine ⟨_, rfl, _, rfl, by show 2 ≤ sizeLine; decide, fun p hp => ⟨d, _, rfl, dget_t (k := ky 0 n) (same_upd hp _ _ e3) upd_same g0, ?_⟩⟩
      have a1 := same_upd (o := .tup [nI 0, nI n]) hp
      refine ⟨T0, _, rfl, SqT.of (a1 _ _ eT0), rfl, _, _, rfl, _, _, rfl, rfl, ?_⟩
      refine ⟨_, rfl, ⟨_, rfl⟩, _, rfl, L0, rfl, ⟨_, .inl (.inl (a1 _ _ eL0))⟩, fun D hD => ?_⟩
      obtain ⟨ps, hps⟩ : ∃ ps, ps = (bst k l (n / 2) 0).2 := ⟨_, rfl⟩
      rw [← hps] at eL0 z1 z2
      have eL1 := a1 _ _ eL0
      refine lcF (walk_list (K := K) (a := L0) (xs := ps.map nI)) (fun _ => true) (fun i => .str (Tx [br (ps.getD i 0)])) hD (by rw [List.length_map]; omega) (fun H5 s5 => .inl (.inl (s5 _ _ eL1))) (fun i x H5 H6 hi s5 y N hN => ?_) (fun H5 s5 e5 => ?_)
      · obtain ⟨rfl, hx⟩ := y
        rw [List.length_map] at hi
        have hpi : ps[i]? = some (ps.getD i 0) := getD_at hi
        rw [List.getElem?_map, hpi] at hx
        obtain rfl : nI (ps.getD i 0) = x := Option.some.inj hx
        have h8 := z2 _ (List.mem_of_getElem? hpi)
        have hN2 := hN _ (Same.refl _)
        rw [if_pos rfl] at hN2
        exact ⟨rfl, _, rfl, _, _, _, rfl, rfl, by decide, at_tx (br_at h8), hN2⟩
      · rw [List.length_map, lcV_filter (p := fun _ => true) (v := fun c => .str (Tx [br c])), List.filter_eq_self.mpr fun _ _ => rfl] at e5
        refine ⟨Tx [], D, ps.map fun c => Tx [br c], rfl, rfl, .inl (.inl (.inl (by rw [List.map_map]; exact e5))), ?_, ?_⟩
        · rw [len_ones (f := br), List.length_map]
          show ps.length + ps.length * 0 ≤ _
          omega
        · rw [joinT_one br]
          refine ⟨by show 2 ≤ sizeLine; decide, fun R hR => ?_⟩
          have sN := ((s3.trans (sameX (a1.trans s5))).new hHd)
          refine q0 hev _ R (sN.trans (same_upd hR)) (sN.free hR) ?_
          rw [upd_same, ← hn, ← hps]
end
end BR
set_option Elab.async false
set_option linter.all false
set_option maxRecDepth 100000
set_option maxHeartbeats 4000000
/-! D12: likely.py -/
namespace BR
open PySem PySem.Spec PyProof.Rows L2
theorem sign_q {c : Nat} : decide (V.str (Tx [c]) = V.str (Str.ofString "?")) = decide (c = 63) := sign_eq (b := 63)
/-- a bracket as a key -/
def kS (c : Nat) : L2.Key := Sum.inr (Tx [c])
theorem kS_inj {a b : Nat} (h : kS a = kS b) : a = b := by
  have := Tx_inj (Sum.inr.inj h)
  exact (List.cons.inj this).1
/-- a dict for each place: what each bracket costs there -/
def CostD (H : Hp) (cs : List Nat) (s : Nat) (a : Addr) : Prop := ∃ kvs, H a = some (.dK kvs) ∧ ∀ c ∈ cs, valV kvs (kS c) = some (nI (lN s c))
def CostAt (H : Hp) (k : Nat) (l : List Nat) (as : List Addr) : Prop := as.length = l.length ∧ ∀ (i : Nat) a, as[i]? = some a → CostD H (kSet k) (l.getD i 0) a
theorem CostD.same {H H' : Hp} {cs : List Nat} {s : Nat} {a : Addr} (h : CostD H cs s a) (e : Same H H') : CostD H' cs s a := by
  obtain ⟨kvs, h1, h2⟩ := h
  exact ⟨kvs, e _ _ h1, h2⟩
theorem CostAt.same {H H' : Hp} {k : Nat} {l : List Nat} {as : List Addr} (h : CostAt H k l as) (e : Same H H') : CostAt H' k l as := ⟨h.1, fun i a ha => (h.2 i a ha).same e⟩
theorem kSet_len {k : Nat} (hk : k ≤ 4) : (kSet k).length = 2 * k := by
  have h : ∀ k, k ≤ 4 → (kSet k).length = 2 * k := by decide
  exact h k hk
theorem kSet_nd {k : Nat} (hk : k ≤ 4) : (kSet k).Nodup := by
  have h : ∀ k, k ≤ 4 → (kSet k).Nodup := by decide
  exact h k hk
theorem rep1 (n : Nat) : (List.replicate n [V.int 1]).flatten = List.replicate n (V.int 1) := by
  induction n with
  | zero => rfl
  | succ n ih =>
    rw [List.replicate_succ, List.flatten_cons, ih, List.replicate_succ]
    rfl
section
variable {P : Program} {w : World} {K : PySem.W.Frag} {mg : Str → Option Value} {base : Heap} {f : Addr} {fd : FuncData}
def spCosts (K : PySem.W.Frag) : Sp := fun vs H Q _ => ∃ (k : Nat) (l : List Nat) (W : Addr), vs = [.int k, .str (Tx l), .ref W] ∧ k ≤ 4 ∧ l.length ≤ 40 ∧ H W = some (.lst (List.replicate (2 * k) (.int 1))) ∧
  ∀ H' D as, Same H H' → H D = none → H' D = some (.lst (as.map V.ref)) → CostAt H' k l as → Q (.ref D) H'
theorem sc_costs_by_place : FnScope ["k", "row", "weights", "found", "sign", "here", "bracket", "weight"] ["k", "row", "weights"] (defScope s_costs_by_place) := ⟨rfl, rfl, rfl, by decide +kernel, rfl, by decide +kernel, by decide +kernel⟩
theorem ok_costs_by_place (T : Txt K mg) (F : FunP K "costs_by_place" "costs_by_place" s_costs_by_place f fd) : FnOk P w K mg base CX0 1 f fd ["k", "row", "weights"] (spCosts K) := by
  refine F.ok sc_costs_by_place (fun vs H Q E h => ?_) (fun cdv A outer s H vs Q E hr h => ?_)
  · obtain ⟨k, l, W, rfl, _⟩ := h
    rfl
  · obtain ⟨k, l, W, rfl, hk, hl, eW, q⟩ := h
    have hu := hu_of hr
    refine ⟨_, PSs.nox (pss_cons (ps_set (i := 3) sc_costs_by_place.nd rfl (.inl rfl) (pe_lst pa_nil))
       (pss_cons (ps_for PassesOwn.never rfl (pi_str (pv 1)) (pg_name (i := 4) sc_costs_by_place.nd rfl (.inl rfl))
        (pss_cons (ps_set (i := 5) sc_costs_by_place.nd rfl (.inl rfl) pe_dnewK)
       (pss_cons (ps_for PassesOwn.never rfl (pi_zipSL (by rfl) T.b_zip (pa_cons (pe_slice sl_str (pe_gS T.c_BRACKETS) po_none (po_some (pe_op op_mul pe_int (pv 0)))) (pa_cons (pv 2) pa_nil))) (pg_tup (by rfl) (pgs_cons (pg_name (i := 6) sc_costs_by_place.nd rfl (.inl rfl)) (pgs_cons (pg_name (i := 7) sc_costs_by_place.nd rfl (.inl rfl)) pgs_nil)))
        (pss_one (ps_dput hu (pv 5) (pv 6) (pe_ifExp (pt_cmpR op_eq (pv 4) pe_str (nomark _)) (pv 7) (pe_callTy call_int1 (by rfl) T.b_int (by decide +kernel) (pa_cons (pe_cmpR op_eq (pv 4) (pv 6) (nomark _)) pa_nil))) rfl)))
       (pss_one (ps_expr (pe_bm PySem.F.plainAttrs_list PySem.F.slot_list_append PySem.F.type_list_append mt_append (pv 3) (pa_cons (pv 5) pa_nil)))))))
       (pss_one (ps_ret (pv 3))))) , ?_⟩
    have hz : (Tx l).cps.size = l.length := by simp [Tx]
    refine ⟨Nat.zero_le _, fun D hD => ?_⟩
    refine ⟨_, rfl, _, rfl, ?_⟩
    refine for_it walk_str (fun p σ H' => ∃ (y4 y5 y6 y7 : Option V) (as : List Addr), σ = [some (.int k), some (.str (Tx l)), some (.ref W), some (.ref D), y4, y5, y6, y7] ∧ Same H H' ∧ H' D = some (.lst (as.map V.ref)) ∧ as.length = p ∧ ∀ (i : Nat) a, as[i]? = some a → CostD H' (kSet k) (l.getD i 0) a)
      ⟨none, none, none, none, [], rfl, same_upd hD, upd_same, rfl, fun i a h => by simp at h⟩ (fun _ _ _ _ _ => trivial) (fun p x σ H1 H2 hp hP hY => ?_) (fun σ H1 hP => ?_)
    · obtain ⟨y4, y5, y6, y7, as, rfl, s1, eD, la, hA⟩ := hP
      obtain ⟨rfl, c, hc, rfl⟩ := hY
      have hc2 := txt_at hc
      have hcD : l.getD p 0 = c := by simp [List.getD_eq_getElem?_getD, hc2]
      rw [hz] at hp
      refine fun d hd => ?_
      have nDd : D ≠ d := ne_of_none eD hd
      have ecut : cutS (Tx lBR) none (some (2 * (k : Int))) = Tx (kSet k) := by
        have e := cutS_to lBR (2 * k)
        have e2 : ((2 * k : Nat) : Int) = 2 * (k : Int) := by omega
        rw [e2] at e
        exact e
      refine ⟨_, rfl, _, _, rfl, rfl, .inl ⟨by decide, by decide⟩, _, rfl, _, rfl, by decide, ?_⟩
      rw [ecut]
      have eW2 := s1 _ _ eW
      have nWd : W ≠ d := ne_of_none eW2 hd
      refine ⟨_, rfl, kSet k, W, _, rfl, .inl (.inl (by rw [upd_ne nWd]; exact eW2)), ?_⟩
      rw [List.length_replicate, kSet_len hk, Nat.min_self]
      refine for_it walk_T (fun j σ H' => ∃ (y6 y7 : Option V) (kvs : List (L2.Key × V)), σ = [some (.int k), some (.str (Tx l)), some (.ref W), some (.ref D), some (.str (Tx [c])), some (.ref d), y6, y7] ∧ SameX d H2 H' ∧ H' d = some (.dK kvs) ∧ kvs.length ≤ j ∧ ∀ b ∈ (kSet k).take j, valV kvs (kS b) = some (nI (lN c b)))
        ⟨_, _, [], rfl, same_x, upd_same, Nat.le_refl _, fun b h => (by cases h)⟩ (fun j σ H' hj hP => ?_) (fun j x σ H3 H4 hj hP hY => ?_) (fun σ H3 hP => ?_)
      · obtain ⟨_, _, _, _, s3, _⟩ := hP
        exact .inl (.inl (s3 _ _ nWd eW2))
      · obtain ⟨z6, z7, kvs, rfl, s3, ed, hlk, hv⟩ := hP
        obtain ⟨T', xs, rfl, hT, rfl, b, y, hb, hy, rfl⟩ := hY
        have hy1 : y = .int 1 := (List.mem_replicate.mp (List.mem_of_getElem? hy)).2
        subst hy1
        refine ⟨T', _, rfl, SqT.of upd_same, rfl, _, _, rfl, _, _, rfl, rfl, ?_⟩
        have s4 := same_upd (o := .tup [V.str (Tx [b]), V.int 1]) hT
        have ed4 := s4 _ _ ed
        have fin : ∀ v : V, v = nI (lN c b) → ∃ (y6 y7 : Option V) (kv : List (L2.Key × V)), ([some (.int k), some (.str (Tx l)), some (.ref W), some (.ref D), some (.str (Tx [c])), some (.ref d), some (.str (Tx [b])), some (.int 1)] : L2.St) = [some (.int k), some (.str (Tx l)), some (.ref W), some (.ref D), some (.str (Tx [c])), some (.ref d), y6, y7] ∧
            SameX d H2 (upd (upd H3 T' (.tup [V.str (Tx [b]), V.int 1])) d (.dK (putK kvs (kS b) v))) ∧ (upd (upd H3 T' (.tup [V.str (Tx [b]), V.int 1])) d (.dK (putK kvs (kS b) v))) d = some (.dK kv) ∧ kv.length ≤ j + 1 ∧ ∀ b ∈ (kSet k).take (j + 1), valV kv (kS b) = some (nI (lN c b)) := fun v hv1 => by
          refine ⟨_, _, _, rfl, (s3.trans (sameX s4)).up, upd_same, Nat.le_trans (putK_ln _ _ _) (by omega), fun e he => ?_⟩
          rw [valV_put]
          by_cases z : kS e = kS b
          · rw [if_pos z, hv1, kS_inj z]
          · rw [if_neg z]
            rw [take_next hb] at he
            rcases List.mem_append.mp he with h | h
            · exact hv e h
            · rw [List.mem_singleton.mp h] at z
              exact absurd rfl z
        refine ⟨_, rfl, rfl, _, rfl, ?_⟩
        rw [sign_q]
        refine iteB (fun c1 => ?_) (fun c1 => ?_)
        · have c1' : c = 63 := of_decide_eq_true c1
          exact ⟨_, rfl, _, rfl, _, rfl, d, _, rfl, DPut.k (k := kS b) ed4 (sl_lt (by omega)), fin _ (by unfold lN letB; rw [c1', decide_eq_true rfl]; rfl)⟩
        · refine ⟨_, rfl, _, rfl, rfl, .inr ⟨_, rfl, _, rfl, _, rfl, d, _, rfl, DPut.k (k := kS b) ed4 (sl_lt (by omega)), ?_⟩⟩
          refine fin _ ?_
          unfold lN letB
          rw [c1, Bool.false_or, sign_eq]
          cases decide (c = b) <;> rfl
      · obtain ⟨z6, z7, kvs, rfl, s3, ed, hlk, hv⟩ := hP
        rw [List.take_of_length_le (by rw [kSet_len hk]; omega)] at hv
        have s4 : Same H2 H3 := s3.new hd
        have eD3 := s4 _ _ eD
        -- found.append(here)
        refine ⟨_, rfl, tyL eD3, _, rfl, D, _, _, rfl, rfl, eD3, by rw [List.length_map]; exact sl_lt (by omega), ?_⟩
        have keep : ∀ {a : Addr} {s : Nat}, CostD H3 (kSet k) s a → CostD (upd H3 D (.lst (as.map V.ref ++ [V.ref d]))) (kSet k) s a := fun h => by
          obtain ⟨kv, h1, h2⟩ := h
          exact ⟨kv, by rw [upd_ne (ne_of h1 eD3 (by intro z; cases z))]; exact h1, h2⟩
        refine ⟨_, _, _, _, as ++ [d], rfl, Same.upn (s1.trans s4) hD, by rw [upd_same, List.map_append]; rfl, by rw [List.length_append, la]; rfl, fun i a hi => ?_⟩
        by_cases z : i < p
        · rw [List.getElem?_append_left (by omega)] at hi
          exact keep ((hA i a hi).same s4)
        · have hip : i = p := by
            have := (List.getElem?_eq_some_iff.mp hi).1
            rw [List.length_append, la] at this
            simp at this
            omega
          rw [List.getElem?_append_right (by omega), la, hip, Nat.sub_self] at hi
          obtain rfl : d = a := Option.some.inj hi
          rw [hip, hcD]
          exact keep ⟨kvs, ed, hv⟩
    · obtain ⟨y4, y5, y6, y7, as, rfl, s1, eD, la, hA⟩ := hP
      rw [hz] at la
      exact ⟨_, rfl, q _ D as s1 hD eD ⟨la, hA⟩⟩
end
end BR
set_option Elab.async false
set_option linter.all false
set_option maxRecDepth 100000
set_option maxHeartbeats 4000000
/-! D13: likely.py: sums_within, sum_of -/
namespace BR
open PySem PySem.Spec PyProof.Rows L2
theorem CostAt.get {H : Hp} {k : Nat} {l : List Nat} {as : List Addr} (h : CostAt H k l as) {i : Nat} (hi : i < l.length) : ∃ a kvs, as[i]? = some a ∧ (as.map V.ref)[i]? = some (.ref a) ∧ H a = some (.dK kvs) ∧ ∀ c ∈ kSet k, valV kvs (kS c) = some (nI (lN (l.getD i 0) c)) := by
  have hi2 : i < as.length := by rw [h.1]; exact hi
  have e : as[i]? = some as[i] := List.getElem?_eq_getElem hi2
  obtain ⟨kvs, h1, h2⟩ := h.2 i _ e
  exact ⟨as[i], kvs, e, by rw [List.getElem?_map, e]; rfl, h1, h2⟩
theorem CostAt.sameX {d : Addr} {kv0 : List (List L2.Key × V)} {H H' : Hp} {k : Nat} {l : List Nat} {as : List Addr} (h : CostAt H k l as) (e : H d = some (.dT kv0)) (s : SameX d H H') : CostAt H' k l as := by
  refine ⟨h.1, fun i a ha => ?_⟩
  obtain ⟨kvs, h1, h2⟩ := h.2 i a ha
  exact ⟨kvs, s _ _ (ne_of h1 e (by intro z; cases z)) h1, h2⟩
theorem br_mem {k κ : Nat} (hk : k ≤ 4) (h : κ < k) : br (2 * κ) ∈ kSet k ∧ br (2 * κ + 1) ∈ kSet k := by
  have h2 : ∀ k, k ≤ 4 → ∀ κ, κ < k → br (2 * κ) ∈ kSet k ∧ br (2 * κ + 1) ∈ kSet k := by decide
  exact h2 k hk κ h
theorem lN_lt (c b : Nat) : lN c b < 2 ^ 10 := Nat.lt_of_le_of_lt (lN_le c b) (by decide)
theorem wide_of {a b m n : Nat} (ha : a < 2 ^ m) (hb : b < 2 ^ n) (h0 : 0 < m) (h1 : 0 < n) (h : m + n ≤ 1000000) : CMulW (a : Int) (b : Int) := wide_mul (nat_lt_pow ha) (nat_lt_pow hb) h0 h1 h
theorem mul_lt {a b m n : Nat} (ha : a < 2 ^ m) (hb : b < 2 ^ n) : a * b < 2 ^ (m + n) := by
  rw [Nat.pow_add]
  exact Nat.mul_lt_mul_of_lt_of_lt ha hb
section
variable {P : Program} {w : World} {K : PySem.W.Frag} {mg : Str → Option Value} {base : Heap} {f : Addr} {fd : FuncData}
def spSums : Sp := fun vs H Q _ => ∃ (k : Nat) (l : List Nat) (C : Addr) (as : List Addr), vs = [.int k, .ref C] ∧ k ≤ 4 ∧ l.length ≤ 40 ∧ H C = some (.lst (as.map V.ref)) ∧ CostAt H k l as ∧
  ∀ H' d kvs, Same H H' → H d = none → H' d = some (.dT kvs) → CTab k l kvs → Q (.ref d) H'
theorem sc_sums_within : FnScope ["k", "costs", "many", "sums", "i", "j", "found", "m", "inner", "kind"] ["k", "costs"] (defScope s_sums_within) := ⟨rfl, rfl, rfl, by decide +kernel, rfl, by decide +kernel, by decide +kernel⟩
theorem ok_sums_within (T : Txt K mg) (F : FunP K "sums_within" "sums_within" s_sums_within f fd) : FnOk P w K mg base CX0 1 f fd ["k", "costs"] spSums := by
  refine F.ok sc_sums_within (fun vs H Q E h => ?_) (fun cdv A outer s H vs Q E hr h => ?_)
  · obtain ⟨k, l, C, as, rfl, _⟩ := h
    rfl
  · obtain ⟨k, l, C, as, rfl, hk, hl, eC, hA, q⟩ := h
    have hu := hu_of hr
    refine ⟨_, PSs.nox (pss_cons (ps_set (i := 2) sc_sums_within.nd rfl (.inl rfl) (pe_callB call_len_seq (by rfl) T.b_len (by decide +kernel) (pa_cons (pv 1) pa_nil)))
       (pss_cons (ps_set (i := 3) sc_sums_within.nd rfl (.inl rfl) pe_dnewT)
       (pss_cons (ps_for PassesOwn.never rfl (pi_range3 rfl T.b_range (pa_cons (pv 2) (pa_cons (pe_un un_neg pe_int) (pa_cons (pe_un un_neg pe_int) pa_nil)))) (pg_name (i := 4) sc_sums_within.nd rfl (.inl rfl))
        (pss_cons (ps_dput hu (pv 3) (pe_tup (pa_cons (pv 4) (pa_cons (pv 4) pa_nil))) pe_int rfl)
       (pss_one (ps_for PassesOwn.never rfl (pi_range3 rfl T.b_range (pa_cons (pe_op op_add (pv 4) pe_int) (pa_cons (pe_op op_add (pv 2) pe_int) (pa_cons pe_int pa_nil)))) (pg_name (i := 5) sc_sums_within.nd rfl (.inl rfl))
        (pss_cons (ps_set (i := 6) sc_sums_within.nd rfl (.inl rfl) pe_int)
       (pss_cons (ps_for PassesOwn.never rfl (pi_range3 rfl T.b_range (pa_cons (pe_op op_add (pv 4) pe_int) (pa_cons (pv 5) (pa_cons pe_int pa_nil)))) (pg_name (i := 7) sc_sums_within.nd rfl (.inl rfl))
        (pss_cons (ps_set (i := 8) sc_sums_within.nd rfl (.inl rfl) (pe_op op_mulW (pe_dget hu (pv 3) (pe_tup (pa_cons (pe_op op_add (pv 4) pe_int) (pa_cons (pv 7) pa_nil))) (fun _ _ => rfl)) (pe_dget hu (pv 3) (pe_tup (pa_cons (pe_op op_add (pv 7) pe_int) (pa_cons (pv 5) pa_nil))) (fun _ _ => rfl))))
       (pss_one (ps_for PassesOwn.never rfl (pi_range1 rfl T.b_range (pa_cons (pe_ifExp (pt_cmpR op_gt (pv 8) pe_int (nomark _)) (pv 0) pe_int) pa_nil)) (pg_name (i := 9) sc_sums_within.nd rfl (.inl rfl))
        (pss_one (ps_aug (i := 6) sc_sums_within.nd rfl (.inl rfl) (pe_op op_mulW (pe_op op_mulW (pe_dget hu (pe_ix (show IxR _ (rIxL K) from ix_list) (pv 1) (pv 4) (fun _ _ => rfl)) (pe_ix ix_str (pe_gS T.c_BRACKETS) (pe_op op_mulW pe_int (pv 9)) (fun _ _ => rfl)) (fun _ _ => rfl)) (pe_dget hu (pe_ix (show IxR _ (rIxL K) from ix_list) (pv 1) (pv 7) (fun _ _ => rfl)) (pe_ix ix_str (pe_gS T.c_BRACKETS) (pe_op op_add (pe_op op_mulW pe_int (pv 9)) pe_int) (fun _ _ => rfl)) (fun _ _ => rfl))) (pv 8)) ip_add))))))
       (pss_one (ps_dput hu (pv 3) (pe_tup (pa_cons (pv 4) (pa_cons (pv 5) pa_nil))) (pv 6) rfl))))))))
       (pss_one (ps_ret (pv 3)))))) , ?_⟩
    refine ⟨_, rfl, C, _, rfl, .inl (.inl (.inl eC)), fun d hd => ?_⟩
    rw [List.length_map, hA.1]
    obtain ⟨n, hn⟩ : ∃ n, n = l.length := ⟨_, rfl⟩
    have hn40 : n ≤ 40 := by omega
    rw [← hn]
    -- for i in range(many, -1, -1)
    refine ⟨_, rfl, 1, rfl, 1, rfl, (n : Int), -1, -1, n + 1, rfl, rg_dn (by omega), ?_⟩
    refine for_it walk_rangeC (fun i σ H' => ∃ (y4 y5 y6 y7 y8 y9 : Option V) (kvs : List (List L2.Key × V)), σ = [some (.int k), some (.ref C), some (.int n), some (.ref d), y4, y5, y6, y7, y8, y9] ∧ SameX d H H' ∧ H' d = some (.dT kvs) ∧
        Tab (fun i j => (nI (Wd k l i j))) n (n + 1 - i) 0 kvs ∧ kvs.length ≤ 50 * i)
      ⟨none, none, none, none, none, none, [], rfl, same_x, upd_same, tab_start, Nat.le_refl _⟩ (fun _ _ _ _ _ => trivial) (fun i x σ H2 H3 hi hP hY => ?_) (fun σ H2 hP => ?_)
    · obtain ⟨y4, y5, y6, y7, y8, y9, kvs, rfl, s2, e2, tb, hln⟩ := hP
      obtain ⟨rfl, hx⟩ := hY
      obtain ⟨b, hb⟩ : ∃ b, b = n - i := ⟨_, rfl⟩
      have hx' : x = nI b := hx.trans (congrArg V.int (show (n : Int) + ((i : Nat) : Int) * (-1) = (b : Int) by omega))
      subst hx'
      clear hx
      rw [show n + 1 - i = b + 1 by omega] at tb
      -- sums[i, i] = 1
      refine ⟨_, rfl, _, rfl, _, rfl, by show 2 ≤ sizeLine; decide, fun p hp => ?_⟩
      have a1 := same_upd (o := .tup [nI b, nI b]) hp
      refine ⟨d, _, rfl, DPut.t (k := ky b b) (a1 _ _ e2) upd_same (sl_lt (by omega)), ?_⟩
      have s4 : SameX d H (upd (upd H3 p (.tup [nI b, nI b])) d (.dT (putK kvs (ky b b) (.int 1)))) := (s2.trans (sameX a1)).up
      have tb4 : Tab (fun i j => (nI (Wd k l i j))) n (b + 1) (b + 1) (putK kvs (ky b b) (.int 1)) := by
        have := tab_diag tb
        rw [Wd_self k l b] at this
        exact this
      have hl4 : (putK kvs (ky b b) (V.int 1)).length ≤ 50 * i + 1 := Nat.le_trans (putK_ln _ _ _) (by omega)
      have e4 : (upd (upd H3 p (.tup [nI b, nI b])) d (.dT (putK kvs (ky b b) (.int 1)))) d = some (.dT (putK kvs (ky b b) (.int 1))) := upd_same
      generalize upd (upd H3 p (.tup [nI b, nI b])) d (.dT (putK kvs (ky b b) (.int 1))) = H5 at s4 e4 ⊢
      generalize putK kvs (ky b b) (V.int 1) = kv4 at e4 tb4 hl4 ⊢
      -- for j in range(i + 2, many + 1, 2)
      refine ⟨_, rfl, _, _, rfl, rfl, _, rfl, _, _, rfl, rfl, ((b + 2 : Nat) : Int), ((n + 1 : Nat) : Int), 2, (n + 1 - (b + 2) + 1) / 2, rfl, rg_two (by omega) (by omega), ?_⟩
      refine for_it walk_rangeC (fun u σ H' => ∃ (y5 y6 y7 y8 y9 : Option V) (kv : List (List L2.Key × V)), σ = [some (.int k), some (.ref C), some (.int n), some (.ref d), some (nI b), y5, y6, y7, y8, y9] ∧ SameX d H H' ∧ H' d = some (.dT kv) ∧
          Tab (fun i j => (nI (Wd k l i j))) n (b + 1) (b + 1 + 2 * u) kv ∧ kv.length ≤ 50 * i + 1 + u)
        ⟨_, _, _, _, _, kv4, rfl, s4, e4, tb4, hl4⟩ (fun _ _ _ _ _ => trivial) (fun u x σ H6 H7 hu' hP hY => ?_) (fun σ H6 hP => ?_)
      · obtain ⟨y5, y6, y7, y8, y9, kv, rfl, s6, e6, tb6, hl6⟩ := hP
        obtain ⟨rfl, hx⟩ := hY
        have hx' : x = nI (b + 2 + 2 * u) := hx.trans (congrArg V.int (show ((b + 2 : Nat) : Int) + ((u : Nat) : Int) * 2 = ((b + 2 + 2 * u : Nat) : Int) by omega))
        subst hx'
        clear hx
        have eC7 : H7 C = some (.lst (as.map V.ref)) := s6 _ _ (fun z => by rw [z, hd] at eC; cases eC) eC
        have hA7 : CostAt H7 k l as := ⟨hA.1, fun i a ha => by
          obtain ⟨kv0, h1, h2⟩ := hA.2 i a ha
          exact ⟨kv0, s6 _ _ (fun z => by rw [z, hd] at h1; cases h1) h1, h2⟩⟩
        -- for m in range(i + 1, j, 2)
        refine ⟨_, rfl, _, _, rfl, rfl, _, rfl, ((b + 1 : Nat) : Int), ((b + 2 + 2 * u : Nat) : Int), 2, (b + 2 + 2 * u - (b + 1) + 1) / 2, rfl, rg_two (by omega) (by omega), ?_⟩
        refine for_it walk_rangeC (fun t σ H' => ∃ (y7 y8 y9 : Option V), σ = [some (.int k), some (.ref C), some (.int n), some (.ref d), some (nI b), some (nI (b + 2 + 2 * u)), some (nI (sumK t fun t => tW k l b (b + 2 * u + 2) (b + 1 + 2 * t))), y7, y8, y9] ∧ Same H7 H')
          ⟨_, _, _, rfl, Same.refl _⟩ (fun _ _ _ _ _ => trivial) (fun t x σ H8 H9 ht hP hY => ?_) (fun σ H8 hP => ?_)
        · obtain ⟨y7, y8, y9, rfl, s8⟩ := hP
          obtain ⟨rfl, hx⟩ := hY
          have hx' : x = nI (b + 1 + 2 * t) := hx.trans (congrArg V.int (show ((b + 1 : Nat) : Int) + ((t : Nat) : Int) * 2 = ((b + 1 + 2 * t : Nat) : Int) by omega))
          subst hx'
          clear hx
          have e9 := s8 _ _ e6
          have ht2 : t ≤ u := by omega
          have w1 := Wd_le hk (by omega : l.length ≤ 40) (b + 1) (b + 1 + 2 * t)
          have w2 := Wd_le hk (by omega : l.length ≤ 40) (b + 1 + 2 * t + 1) (b + 2 + 2 * u)
          -- inner
          refine ⟨_, rfl, _, rfl, _, _, rfl, rfl, _, rfl, by show 2 ≤ sizeLine; decide, fun p1 hp1 => ⟨d, _, rfl, dget_t (k := ky (b + 1) (b + 1 + 2 * t)) (same_upd hp1 _ _ e9) upd_same (tab_get tb6 (by omega) (by omega) ⟨.inl (by omega), by omega, by omega⟩), ?_⟩⟩
          refine ⟨_, rfl, _, rfl, _, _, rfl, rfl, _, rfl, by show 2 ≤ sizeLine; decide, fun p2 hp2 => ⟨d, _, rfl, dget_t (k := ky (b + 1 + 2 * t + 1) (b + 2 + 2 * u)) (same_upd hp2 _ _ (same_upd hp1 _ _ e9)) upd_same (tab_get tb6 (by omega) (by omega) ⟨.inl (by omega), by omega, by omega⟩), ?_⟩⟩
          refine ⟨_, _, rfl, rfl, wide_of w1 w2 (by decide) (by decide) (by decide), ?_⟩
          obtain ⟨I0, hI0⟩ : ∃ I0, I0 = Wd k l (b + 1) (b + 1 + 2 * t) * Wd k l (b + 1 + 2 * t + 1) (b + 2 + 2 * u) := ⟨_, rfl⟩
          have eI : ((Wd k l (b + 1) (b + 1 + 2 * t) : Nat) : Int) * ((Wd k l (b + 1 + 2 * t + 1) (b + 2 + 2 * u) : Nat) : Int) = ((I0 : Nat) : Int) := by
            rw [hI0]
            omega
          have hIlt : I0 < 2 ^ 200 := by
            rw [hI0]
            exact mul_lt w1 w2
          have sp := (same_upd (o := .tup [nI (b + 1), nI (b + 1 + 2 * t)]) hp1).trans (same_upd (o := .tup [nI (b + 1 + 2 * t + 1), nI (b + 2 + 2 * u)]) hp2)
          have s10 := s8.trans sp
          refine ⟨_, rfl, _, _, rfl, rfl, _, rfl, ?_⟩
          have hS : sumK (t + 1) (fun t => tW k l b (b + 2 * u + 2) (b + 1 + 2 * t)) = sumK t (fun t => tW k l b (b + 2 * u + 2) (b + 1 + 2 * t)) + ways k (l.getD b 0) (l.getD (b + 1 + 2 * t) 0) * I0 := by
            rw [sumK_succ]
            congr 1
            show ways _ _ _ * Wd k l (b + 1) (b + 1 + 2 * t) * Wd k l (b + 1 + 2 * t + 1) (b + 2 * u + 2) = _
            rw [hI0, Nat.mul_assoc, show b + 2 * u + 2 = b + 2 + 2 * u by omega]
          obtain ⟨F0, hF0⟩ : ∃ F0, F0 = sumK t (fun t => tW k l b (b + 2 * u + 2) (b + 1 + 2 * t)) := ⟨_, rfl⟩
          rw [← hF0] at hS
          rw [hS, ← hF0]
          refine iteB (fun c1 => ?_) (fun c1 => ?_)
          · refine ⟨_, rfl, _, rfl, by omega, by omega, ?_⟩
            rw [show (k : Int).toNat = k by omega]
            refine for_it walk_range (fun κ σ H' => ∃ (y9 : Option V), σ = [some (.int k), some (.ref C), some (.int n), some (.ref d), some (nI b), some (nI (b + 2 + 2 * u)), some (nI (F0 + sumK κ (fun κ => lN (l.getD b 0) (br (2 * κ)) * lN (l.getD (b + 1 + 2 * t) 0) (br (2 * κ + 1))) * I0)), some (nI (b + 1 + 2 * t)), some (nI I0), y9] ∧ Same H7 H')
              ⟨y9, ?_, s10⟩ (fun _ _ _ _ _ => trivial) (fun κ x σ HA HB hκ hP hY => ?_) (fun σ HA hP => ?_)
            · rw [sumK_zero, Nat.zero_mul, Nat.add_zero]
              show ([_, _, _, _, _, _, _, _, some (V.int _), _] : L2.St) = _
              rw [eI]
              rfl
            · obtain ⟨z9, rfl, sA⟩ := hP
              obtain ⟨rfl, hx⟩ := hY
              have hx' : x = nI κ := hx.trans (congrArg V.int (Int.zero_add _))
              subst hx'
              clear hx
              have hAA := hA7.same sA
              have eCA := sA _ _ eC7
              obtain ⟨a1, v1, _, g1, eq1, w1⟩ := hAA.get (i := b) (by omega)
              obtain ⟨a2, v2, _, g2, eq2, w2⟩ := hAA.get (i := b + 1 + 2 * t) (by omega)
              obtain ⟨m1, m2⟩ := br_mem hk hκ
              have l1 := lN_lt (l.getD b 0) (br (2 * κ))
              have l2 := lN_lt (l.getD (b + 1 + 2 * t) 0) (br (2 * κ + 1))
              have hκ4 : κ < 2 ^ 10 := by omega
              refine ⟨_, rfl, _, rfl, _, rfl, C, _, _, _, rfl, rfl, .inl (.inl eCA), atI_nat g1, _, rfl, _, _, rfl, rfl, wide_of (a := 2) (m := 10) (n := 10) (by decide) hκ4 (by decide) (by decide) (by decide), _, _, _, rfl, rfl, by decide, at_txI (j := 2 * κ) (by omega) (br_at (by omega)), a1, _, rfl, dget_k (k := kS (br (2 * κ))) eq1 (w1 _ m1), ?_⟩
              refine ⟨_, rfl, _, rfl, C, _, _, _, rfl, rfl, .inl (.inl eCA), atI_nat g2, _, rfl, _, _, rfl, rfl, wide_of (a := 2) (m := 10) (n := 10) (by decide) hκ4 (by decide) (by decide) (by decide), _, _, rfl, rfl, _, _, _, rfl, rfl, by decide, at_txI (j := 2 * κ + 1) (by omega) (br_at (by omega)), a2, _, rfl, dget_k (k := kS (br (2 * κ + 1))) eq2 (w2 _ m2), ?_⟩
              refine ⟨_, _, rfl, rfl, wide_of l1 l2 (by decide) (by decide) (by decide), _, rfl, ?_⟩
              refine ⟨_, _, rfl, rfl, wide_of (a := lN (l.getD b 0) (br (2 * κ)) * lN (l.getD (b + 1 + 2 * t) 0) (br (2 * κ + 1))) (mul_lt l1 l2) hIlt (by decide) (by decide) (by decide), _, _, rfl, rfl, some (nI κ), ?_, sA⟩
              rw [sumK_succ, Nat.add_mul, ← Nat.add_assoc]
              rfl
            · obtain ⟨z9, rfl, sA⟩ := hP
              exact ⟨_, _, _, rfl, sA⟩
          · have hI00 : I0 = 0 := by
              have c2 := of_decide_eq_false c1
              rw [eI] at c2
              omega
            refine ⟨_, rfl, by omega, by omega, ?_⟩
            refine for_it (n := 0) walk_range (fun κ σ H' => ∃ (y8 y9 : Option V), σ = [some (.int k), some (.ref C), some (.int n), some (.ref d), some (nI b), some (nI (b + 2 + 2 * u)), some (nI F0), some (nI (b + 1 + 2 * t)), y8, y9] ∧ Same H7 H') ⟨_, y9, rfl, s10⟩ (fun _ _ _ _ _ => trivial) (fun κ x σ HA HB hκ hP hY => absurd hκ (Nat.not_lt_zero _)) (fun σ HA hP => ?_)
            obtain ⟨z8, z9, rfl, sA⟩ := hP
            refine ⟨some (nI (b + 1 + 2 * t)), z8, z9, ?_, sA⟩
            rw [hI00, Nat.mul_zero]
            rfl
        · obtain ⟨y7, y8, y9, rfl, s8⟩ := hP
          have e8 := s8 _ _ e6
          -- sums[i, j] = found
          refine ⟨_, rfl, _, rfl, _, rfl, _, rfl, by show 2 ≤ sizeLine; decide, fun p hp => ?_⟩
          have a1 := same_upd (o := .tup [nI b, nI (b + 2 + 2 * u)]) hp
          refine ⟨d, _, rfl, DPut.t (k := ky b (b + 2 + 2 * u)) (a1 _ _ e8) upd_same (sl_lt (by omega)), ?_⟩
          refine ⟨_, _, _, _, _, _, rfl, ((s6.trans (sameX s8)).trans (sameX a1)).up, upd_same, ?_, Nat.le_trans (putK_ln _ _ _) (by omega)⟩
          have hw := Wd_step (k := k) (l := l) (i := b) (u := u) (by omega)
          rw [show (b + 2 + 2 * u - (b + 1) + 1) / 2 = u + 1 by omega, ← hw, show b + 2 * u + 2 = b + 2 + 2 * u by omega]
          exact tab_put tb6
      · obtain ⟨y5, y6, y7, y8, y9, kv, rfl, s6, e6, tb6, hl6⟩ := hP
        refine ⟨_, _, _, _, _, _, kv, rfl, s6, e6, ?_, by omega⟩
        rw [show n + 1 - (i + 1) = b by omega]
        rw [show (n + 1 - (b + 2) + 1) / 2 = (n - b) / 2 by omega] at tb6
        exact tab_next tb6
    · obtain ⟨y4, y5, y6, y7, y8, y9, kvs, rfl, s2, e2, tb, hln⟩ := hP
      refine ⟨_, rfl, q H2 d kvs (s2.new hd) hd e2 ?_⟩
      rw [show n + 1 - (n + 1) = 0 by omega] at tb
      unfold CTab
      rw [← hn]
      exact tb
def spSumOf : Sp := fun vs H Q _ => ∃ (k : Nat) (l : List Nat) (C : Addr) (as : List Addr), vs = [.int k, .ref C] ∧ k ≤ 4 ∧ l.length ≤ 40 ∧ H C = some (.lst (as.map V.ref)) ∧ CostAt H k l as ∧ ∀ H', Same H H' → Q (nI (Wn k l)) H'
theorem sc_sum_of : FnScope ["k", "costs"] ["k", "costs"] (defScope s_sum_of) := ⟨rfl, rfl, rfl, by decide +kernel, rfl, by decide +kernel, by decide +kernel⟩
theorem ok_sum_of (T : Txt K mg) (F : FunP K "sum_of" "sum_of" s_sum_of f fd) (g_sums_within : Dk P w K mg base CX0 1 "sums_within" ["k", "costs"] spSums) : FnOk P w K mg base CX0 2 f fd ["k", "costs"] spSumOf := by
  refine F.ok sc_sum_of (fun vs H Q E h => ?_) (fun cdv A outer s H vs Q E hr h => ?_)
  · obtain ⟨k, l, C, as, rfl, _⟩ := h
    rfl
  · obtain ⟨k, l, C, as, rfl, hk, hl, eC, hA, q⟩ := h
    have hu := hu_of hr
    refine ⟨_, PSs.nox (pss_cons (ps_if (pt_cmpR op_eq (pe_op op_mod (pe_callB call_len_seq (by rfl) T.b_len (by decide +kernel) (pa_cons (pv 1) pa_nil)) pe_int) pe_int (nomark _))
        (pss_one (ps_ret pe_int))
        pss_nil)
       (pss_one (ps_ret (pe_dget hu (g_sums_within.call hr pass0 (pa_cons (pv 0) (pa_cons (pv 1) pa_nil))) (pe_tup (pa_cons pe_int (pa_cons (pe_callB call_len_seq (by rfl) T.b_len (by decide +kernel) (pa_cons (pv 1) pa_nil)) pa_nil))) (fun _ _ => rfl))))) , ?_⟩
    refine ⟨_, rfl, C, _, rfl, .inl (.inl (.inl eC)), ?_⟩
    rw [List.length_map, hA.1]
    refine ⟨_, _, rfl, rfl, by show (0 : Int) < 2; decide, rfl, _, rfl, ?_⟩
    have e1 : decide (V.int ((l.length : Int) % 2) = V.int 1) = decide (l.length % 2 = 1) := by
      refine decide_eq_decide.mpr ⟨fun z => ?_, fun z => ?_⟩
      · have := V.int.inj z
        omega
      · congr 1
        omega
    rw [e1]
    refine iteB (fun c1 => ?_) (fun c1 => ?_)
    · have := q H (Same.refl H)
      rw [Wn_odd k l (of_decide_eq_true c1)] at this
      exact this
    · have hev := of_decide_eq_false c1
      refine ⟨_, rfl, _, rfl, k, l, C, as, rfl, hk, hl, eC, hA, fun H1 d kvs s1 hd ed tab => ?_⟩
      refine ⟨_, rfl, C, _, rfl, .inl (.inl (.inl (s1 _ _ eC))), by show 2 ≤ sizeLine; decide, ?_⟩
      rw [List.length_map, hA.1]
      refine fun p hp => ⟨d, _, rfl, dget_t (k := ky 0 l.length) (same_upd hp _ _ ed) upd_same (tab_get tab (Nat.zero_le _) (Nat.le_refl _) (by unfold TIn; omega)), ?_⟩
      have := q _ (s1.trans (same_upd (o := .tup [nI 0, nI l.length]) hp))
      unfold Wd
      rw [sl_all]
      exact this
end
end BR
set_option Elab.async false
set_option linter.all false
set_option maxRecDepth 100000
set_option maxHeartbeats 4000000
/-! M6: what stands around a pair; plain. -/
namespace BR
def aB (k : Nat) (l : List Nat) (i j : Nat) : Nat := if i % 2 = 0 ∧ (l.length - j) % 2 = 1 then Wd k l 0 i * Wd k l (j + 1) l.length else 0
def aI (k : Nat) (l : List Nat) (i j s t : Nat) : Nat := Wd k l (i - 2 * s) i * Wd k l (j + 1) (j + 1 + 2 * t)
def aT (g : Nat → Nat → Nat) (k : Nat) (l : List Nat) (i j s t : Nat) : Nat := g (i - 1 - 2 * s) (j + 1 + 2 * t) * ways k (l.getD (i - 1 - 2 * s) 0) (l.getD (j + 1 + 2 * t) 0) * aI k l i j s t
def aS (g : Nat → Nat → Nat) (k : Nat) (l : List Nat) (i j : Nat) : Nat := sumK ((i + 1) / 2) fun s => sumK ((l.length - j) / 2) fun t => aT g k l i j s t
/-- the first argument: how deep it may look -/
def aU (k : Nat) (l : List Nat) : Nat → Nat → Nat → Nat
  | 0, i, j => aB k l i j
  | n + 1, i, j => aB k l i j + aS (aU k l n) k l i j
theorem aS_congr {g g' : Nat → Nat → Nat} {k : Nat} {l : List Nat} {i j : Nat} (h : ∀ a b, a < i → g a b = g' a b) : aS g k l i j = aS g' k l i j := by
  refine sumK_congr fun s hs => sumK_congr fun t _ => ?_
  unfold aT
  rw [h (i - 1 - 2 * s) _ (by omega)]
theorem aS_zero {g : Nat → Nat → Nat} {k : Nat} {l : List Nat} {j : Nat} : aS g k l 0 j = 0 := rfl
theorem aU_deep {k : Nat} {l : List Nat} : ∀ n m i j, i ≤ n → i ≤ m → aU k l n i j = aU k l m i j
  | 0, 0, i, j, _, _ => rfl
  | 0, m + 1, i, j, h, _ => by
    obtain rfl : i = 0 := by omega
    show aB k l 0 j = aB k l 0 j + aS (aU k l m) k l 0 j
    rw [aS_zero]
    rfl
  | n + 1, 0, i, j, _, h => by
    obtain rfl : i = 0 := by omega
    show aB k l 0 j + aS (aU k l n) k l 0 j = aB k l 0 j
    rw [aS_zero]
    rfl
  | n + 1, m + 1, i, j, h1, h2 => by
    show aB k l i j + aS (aU k l n) k l i j = aB k l i j + aS (aU k l m) k l i j
    rw [aS_congr fun a b ha => aU_deep n m a b (by omega) (by omega)]
def aw (k : Nat) (l : List Nat) (i j : Nat) : Nat := aU k l i i j
theorem aw_step (k : Nat) (l : List Nat) (i j : Nat) : aw k l i j = aB k l i j + aS (aw k l) k l i j := by
  cases i with
  | zero =>
    rw [aS_zero]
    rfl
  | succ i =>
    show aB k l (i + 1) j + aS (aU k l i) k l (i + 1) j = _
    rw [aS_congr (g' := aw k l) fun a b ha => aU_deep i a a b (by omega) (Nat.le_refl _)]
theorem aU_lt {k : Nat} (hk : k ≤ 4) {l : List Nat} (hl : l.length ≤ 40) : ∀ n i j, i ≤ 40 → aU k l n i j < 2 ^ (300 * (n + 1)) := by
  have hB : ∀ i j, aB k l i j ≤ 2 ^ 200 := fun i j => by
    unfold aB
    split
    · have h1 := Wd_le hk hl 0 i
      have h2 := Wd_le hk hl (j + 1) l.length
      calc _ ≤ 2 ^ 100 * 2 ^ 100 := Nat.mul_le_mul (Nat.le_of_lt h1) (Nat.le_of_lt h2)
        _ = 2 ^ 200 := by decide +kernel
    · exact Nat.zero_le _
  intro n
  induction n with
  | zero =>
    intro i j hi
    show aB k l i j < 2 ^ 300
    have : (2 : Nat) ^ 200 < 2 ^ 300 := by decide +kernel
    exact Nat.lt_of_le_of_lt (hB i j) this
  | succ n ih =>
    intro i j hi
    show aB k l i j + aS (aU k l n) k l i j < _
    have hS : aS (aU k l n) k l i j ≤ 21 * (20 * (2 ^ (300 * (n + 1)) * 4 * 2 ^ 200)) := by
      unfold aS
      refine Nat.le_trans (sumK_le (b := 20 * (2 ^ (300 * (n + 1)) * 4 * 2 ^ 200)) fun s hs => ?_) (Nat.mul_le_mul_right _ (by omega))
      refine Nat.le_trans (sumK_le (b := 2 ^ (300 * (n + 1)) * 4 * 2 ^ 200) fun t _ => ?_) (Nat.mul_le_mul_right _ (by omega))
      unfold aT
      refine Nat.mul_le_mul (Nat.mul_le_mul (Nat.le_of_lt (ih _ _ (by omega))) (Nat.le_trans (ways_le k _ _) hk)) ?_
      unfold aI
      have h1 := Wd_le hk hl (i - 2 * s) i
      have h2 := Wd_le hk hl (j + 1) (j + 1 + 2 * t)
      calc _ ≤ 2 ^ 100 * 2 ^ 100 := Nat.mul_le_mul (Nat.le_of_lt h1) (Nat.le_of_lt h2)
        _ = 2 ^ 200 := by decide +kernel
    have hB1 := hB i j
    have e : (2 : Nat) ^ (300 * (n + 1 + 1)) = 2 ^ (300 * (n + 1)) * 2 ^ 300 := by
      rw [← Nat.pow_add]
      congr 1
    have h1 : 1 ≤ (2 : Nat) ^ (300 * (n + 1)) := Nat.one_le_two_pow
    rw [e]
    generalize (2 : Nat) ^ (300 * (n + 1)) = X at hS h1
    have h3 : (1680 : Nat) * 2 ^ 200 + 2 ^ 200 < 2 ^ 300 := by decide +kernel
    have h4 : 21 * (20 * (X * 4 * 2 ^ 200)) = X * (1680 * 2 ^ 200) := by
      generalize (2 : Nat) ^ 200 = Y
      simp only [Nat.mul_assoc, Nat.mul_left_comm, Nat.mul_comm]
    have h5 : (2 : Nat) ^ 200 ≤ X * 2 ^ 200 := Nat.le_mul_of_pos_left _ h1
    calc _ ≤ X * 2 ^ 200 + X * (1680 * 2 ^ 200) := by omega
      _ = X * (1680 * 2 ^ 200 + 2 ^ 200) := by rw [Nat.mul_add]; omega
      _ < X * 2 ^ 300 := Nat.mul_lt_mul_of_pos_left h3 h1
def bigE : Nat := 20000
theorem aw_lt {k : Nat} (hk : k ≤ 4) {l : List Nat} (hl : l.length ≤ 40) {i : Nat} (j : Nat) (hi : i ≤ 40) : aw k l i j < 2 ^ bigE := by
  have h := aU_lt hk hl i i j hi
  exact Nat.lt_of_lt_of_le h (Nat.pow_le_pow_right (by decide) (by show 300 * (i + 1) ≤ 20000; omega))
/-- how many fillings pair the two places -/
def pW (k : Nat) (l : List Nat) (i j : Nat) : Nat := aw k l i j * Wd k l (i + 1) j
end BR
set_option Elab.async false
set_option linter.all false
set_option maxRecDepth 100000
set_option maxHeartbeats 4000000
/-! D14: sure.py: costs_of, need_filling, pairs_of, around -/
namespace BR
open PySem PySem.Spec PyProof.Rows L2
theorem rs_two_dn (a b : Int) : Builtin.Range.rangeSize a b (-2) = if b < a then (a - b - 1) / 2 + 1 else 0 := by
  unfold Builtin.Range.rangeSize
  rw [if_neg (by decide)]
  rfl
/-- ranges down by two -/
theorem rg_two_dn {a b : Int} (ha : -10 ≤ a) (ha2 : a < 1000) (hb : -10 ≤ b) (hb2 : b < 1000) {n : Nat} (hn : (n : Int) = if b < a then (a - b - 1) / 2 + 1 else 0) : RgC a b (-2) n := by
  refine ⟨by decide, by decide, ?_, by rw [rs_two_dn, hn]⟩
  unfold Builtin.Range.small
  rw [rs_two_dn]
  simp only [Builtin.Range.rangeFitsLong, Bool.and_eq_true, Bool.or_eq_true, decide_eq_true_eq, beq_iff_eq, show ¬ ((-2 : Int) > 0) by decide, if_false]
  split <;> omega
theorem sum_ints {n : Nat} {g : Nat → Nat} : ((List.range n).map fun i => ((g i : Nat) : Int)).sum = ((sumK n g : Nat) : Int) := by
  induction n with
  | zero => rfl
  | succ n ih =>
    rw [List.range_succ, List.map_append, List.sum_append, ih, sumK_succ]
    simp
section
variable {P : Program} {w : World} {K : PySem.W.Frag} {mg : Str → Option Value} {base : Heap} {f : Addr} {fd : FuncData}
def spCostsOf : Sp := fun vs H Q _ => ∃ (k : Nat) (l : List Nat), vs = [.int k, .str (Tx l)] ∧ k ≤ 4 ∧ l.length ≤ 40 ∧ ∀ H' D as, Same H H' → H D = none → H' D = some (.lst (as.map V.ref)) → CostAt H' k l as → Q (.ref D) H'
theorem sc_costs_of : FnScope ["k", "row"] ["k", "row"] (defScope s_costs_of) := ⟨rfl, rfl, rfl, by decide +kernel, rfl, by decide +kernel, by decide +kernel⟩
theorem ok_costs_of (T : Txt K mg) (F : FunP K "costs_of" "costs_of" s_costs_of f fd) (g_costs_by_place : Dk P w K mg base CX0 1 "costs_by_place" ["k", "row", "weights"] (spCosts K)) : FnOk P w K mg base CX0 2 f fd ["k", "row"] spCostsOf := by
  refine F.ok sc_costs_of (fun vs H Q E h => ?_) (fun cdv A outer s H vs Q E hr h => ?_)
  · obtain ⟨k, l, rfl, _⟩ := h
    rfl
  · obtain ⟨k, l, rfl, hk, hl, q⟩ := h
    refine ⟨_, PSs.nox (pss_one (ps_ret (g_costs_by_place.call hr pass0 (pa_cons (pv 0) (pa_cons (pv 1) (pa_cons (pe_op op_rep (pe_lst (pa_cons pe_int pa_nil)) (pe_op op_mul pe_int (pv 0))) pa_nil)))))) , ?_⟩
    refine ⟨_, rfl, _, rfl, by show 1 ≤ sizeLine; decide, fun p hp => ⟨_, rfl, _, _, rfl, rfl, .inl ⟨by decide, by decide⟩, p, _, _, rfl, rfl, upd_same, by omega, by omega, by show 1 * _ ≤ _; exact sl_le (by omega), fun W hW => ?_⟩⟩
    have s1 := same_upd (o := .lst [V.int 1]) hp
    have eW : (List.replicate (2 * (k : Int)).toNat [V.int 1]).flatten = List.replicate (2 * k) (V.int 1) := by
      rw [show (2 * (k : Int)).toNat = 2 * k by omega, rep1]
    have s2 := s1.trans (same_upd (o := .lst (List.replicate (2 * (k : Int)).toNat [V.int 1]).flatten) hW)
    refine ⟨k, l, W, rfl, hk, hl, by rw [← eW]; exact upd_same, fun H' D as s3 hD eD hA => q H' D as (s2.trans s3) (s2.free hD) eD hA⟩
def spNeedFill (C : Addr) : Sp := fun vs H Q E => ∃ (k : Nat) (l : List Nat), vs = [.int k, .str (Tx l)] ∧ k ≤ 4 ∧ l.length ≤ 40 ∧ (0 < Wn k l → ∀ H', Same H H' → Q .non H') ∧ (¬ 0 < Wn k l → ∀ H', Same H H' → E (.ref C) none H')
theorem sc_need_filling : FnScope ["k", "row"] ["k", "row"] (defScope s_need_filling) := ⟨rfl, rfl, rfl, by decide +kernel, rfl, by decide +kernel, by decide +kernel⟩
theorem ok_need_filling (T : Txt K mg) (F : FunP K "need_filling" "need_filling" s_need_filling f fd) (g_costs_of : Dk P w K mg base CX0 2 "costs_of" ["k", "row"] spCostsOf) (g_sum_of : Dk P w K mg base CX0 2 "sum_of" ["k", "costs"] spSumOf) :
    FnOk P w K mg base (L2.CX P w) 3 f fd ["k", "row"] (spNeedFill (cA K "NoFilling")) := by
  refine F.ok sc_need_filling (fun vs H Q E h => ?_) (fun cdv A outer s H vs Q E hr h => ?_)
  · obtain ⟨k, l, rfl, _⟩ := h
    rfl
  · obtain ⟨k, l, rfl, hk, hl, q1, q2⟩ := h
    refine ⟨_, (pss_one (ps_if (pt_cmpR op_eq (g_sum_of.call hr pass0 (pa_cons (pv 0) (pa_cons (g_costs_of.call hr pass0 (pa_cons (pv 0) (pa_cons (pv 1) pa_nil))) pa_nil))) pe_int (nomark _))
        (pss_one (ps_raise rfl (takes_of rfl rfl rfl rfl) (T.x_NoFilling.mk')))
        pss_nil)) , ?_⟩
    refine ⟨_, rfl, _, rfl, _, rfl, k, l, rfl, hk, hl, fun H1 D as s1 hD eD hA => ⟨k, l, D, as, rfl, hk, hl, eD, hA, fun H2 s2 => ⟨rfl, _, rfl, ?_⟩⟩⟩
    have e : decide (nI (Wn k l) = V.int 0) = decide (¬ 0 < Wn k l) := by
      refine decide_eq_decide.mpr ⟨fun z => ?_, fun z => ?_⟩
      · have := V.int.inj z
        omega
      · exact congrArg V.int (show ((Wn k l : Nat) : Int) = 0 by omega)
    rw [e]
    refine iteB (fun c1 => q2 (of_decide_eq_true c1) _ (s1.trans s2)) (fun c1 => ?_)
    have : 0 < Wn k l := Decidable.byContradiction fun z => by
      rw [decide_eq_true z] at c1
      cases c1
    exact q1 this _ (s1.trans s2)
def spPairs : Sp := fun vs H Q _ => ∃ (k : Nat) (l : List Nat) (C : Addr) (as : List Addr) (i j : Nat), vs = [.int k, .ref C, nI i, nI j] ∧ k ≤ 4 ∧ l.length ≤ 40 ∧ H C = some (.lst (as.map V.ref)) ∧ CostAt H k l as ∧ i < l.length ∧ j < l.length ∧ ∀ H', Same H H' → Q (nI (ways k (l.getD i 0) (l.getD j 0))) H'
theorem sc_pairs_of : FnScope ["k", "costs", "i", "j", "kind"] ["k", "costs", "i", "j"] (defScope s_pairs_of) := ⟨rfl, rfl, rfl, by decide +kernel, rfl, by decide +kernel, by decide +kernel⟩
theorem ok_pairs_of (T : Txt K mg) (F : FunP K "pairs_of" "pairs_of" s_pairs_of f fd) : FnOk P w K mg base CX0 1 f fd ["k", "costs", "i", "j"] spPairs := by
  refine F.ok sc_pairs_of (fun vs H Q E h => ?_) (fun cdv A outer s H vs Q E hr h => ?_)
  · obtain ⟨k, l, C, as, i, j, rfl, _⟩ := h
    rfl
  · obtain ⟨k, l, C, as, i, j, rfl, hk, hl, eC, hA, hi, hj, q⟩ := h
    have hu := hu_of hr
    refine ⟨_, PSs.nox (pss_one (ps_ret (pe_callB (cr_sum rfl) (by rfl) T.b_sum (by decide +kernel) (pa_cons (pe_lc (own := [("kind", 4)]) (g := (gName 4)) (tt := _) (by rfl) sc_pairs_of.nd (pi_range1 rfl T.b_range (pa_cons (pv 0) pa_nil)) (blkOk_by (own := [("kind", 4)]) (N := ["k", "costs", "i", "j", "kind"]) (sc := defScope s_pairs_of) (by decide +kernel)) (fun _ _ _ _ _ => (pg_name (i := 4) sc_pairs_of.nd rfl (.inl rfl))) (fun _ _ _ _ _ => pts_nil) (fun _ _ _ _ _ => (pe_op op_mulW (pe_dget hu (pe_ix (show IxR _ (rIxL K) from ix_list) (pv 1) (pv 2) (fun _ _ => rfl)) (pe_ix ix_str (pe_gS T.c_BRACKETS) (pe_op op_mulW pe_int (pv 4)) (fun _ _ => rfl)) (fun _ _ => rfl)) (pe_dget hu (pe_ix (show IxR _ (rIxL K) from ix_list) (pv 1) (pv 3) (fun _ _ => rfl)) (pe_ix ix_str (pe_gS T.c_BRACKETS) (pe_op op_add (pe_op op_mulW pe_int (pv 4)) pe_int) (fun _ _ => rfl)) (fun _ _ => rfl))))) pa_nil)))) , ?_⟩
    refine ⟨_, rfl, _, rfl, by omega, by omega, fun D hD => ?_⟩
    rw [show (k : Int).toNat = k by omega]
    refine lcF walk_range (fun _ => true) (fun κ => nI (lN (l.getD i 0) (br (2 * κ)) * lN (l.getD j 0) (br (2 * κ + 1)))) hD (by omega) (fun _ _ => trivial) (fun κ x H2 H3 hκ s2 y N hN => ?_) (fun H2 s2 e2 => ?_)
    · obtain ⟨rfl, hx⟩ := y
      have hx' : x = nI κ := hx.trans (congrArg V.int (Int.zero_add _))
      subst hx'
      have hAA := hA.same s2
      have eCA := s2 _ _ eC
      obtain ⟨a1, v1, _, g1, eq1, w1⟩ := hAA.get hi
      obtain ⟨a2, v2, _, g2, eq2, w2⟩ := hAA.get hj
      obtain ⟨m1, m2⟩ := br_mem hk hκ
      have l1 := lN_lt (l.getD i 0) (br (2 * κ))
      have l2 := lN_lt (l.getD j 0) (br (2 * κ + 1))
      have hκ4 : κ < 2 ^ 10 := by omega
      refine ⟨rfl, _, rfl, _, rfl, C, _, _, _, rfl, rfl, .inl (.inl eCA), atI_nat g1, _, rfl, _, _, rfl, rfl, wide_of (a := 2) (m := 10) (n := 10) (by decide) hκ4 (by decide) (by decide) (by decide), _, _, _, rfl, rfl, by decide, at_txI (j := 2 * κ) (by omega) (br_at (by omega)), a1, _, rfl, dget_k (k := kS (br (2 * κ))) eq1 (w1 _ m1), ?_⟩
      refine ⟨_, rfl, _, rfl, C, _, _, _, rfl, rfl, .inl (.inl eCA), atI_nat g2, _, rfl, _, _, rfl, rfl, wide_of (a := 2) (m := 10) (n := 10) (by decide) hκ4 (by decide) (by decide) (by decide), _, _, rfl, rfl, _, _, _, rfl, rfl, by decide, at_txI (j := 2 * κ + 1) (by omega) (br_at (by omega)), a2, _, rfl, dget_k (k := kS (br (2 * κ + 1))) eq2 (w2 _ m2), ?_⟩
      refine ⟨_, _, rfl, rfl, wide_of l1 l2 (by decide) (by decide) (by decide), ?_⟩
      have := hN _ (Same.refl _)
      rw [if_pos rfl] at this
      exact this
    · rw [lcV_all] at e2
      have e3 : (List.range k).map (fun κ => nI (lN (l.getD i 0) (br (2 * κ)) * lN (l.getD j 0) (br (2 * κ + 1)))) = ((List.range k).map fun κ => ((lN (l.getD i 0) (br (2 * κ)) * lN (l.getD j 0) (br (2 * κ + 1)) : Nat) : Int)).map V.int := by
        rw [List.map_map]
        rfl
      rw [e3] at e2
      refine ⟨D, _, rfl, .inl (.inl e2), ?_⟩
      rw [sum_ints]
      exact q _ s2
/-- the table of what stands around: the pairs in S have their own -/
def AWT (k : Nat) (l : List Nat) (S : Nat → Nat → Prop) (kvs : List (List L2.Key × V)) : Prop := ∀ i j, j < l.length → S i j → valV kvs (ky i j) = some (nI (aw k l i j))
def spAround : Sp := fun vs H Q _ => ∃ (k : Nat) (l : List Nat) (C Sd Wd' : Addr) (as : List Addr) (kvS kvW : List (List L2.Key × V)) (i j : Nat), vs = [.int k, .ref C, .ref Sd, .ref Wd', nI i, nI j] ∧ k ≤ 4 ∧ l.length ≤ 40 ∧ l.length % 2 = 0 ∧ H C = some (.lst (as.map V.ref)) ∧ CostAt H k l as ∧
  H Sd = some (.dT kvS) ∧ CTab k l kvS ∧ H Wd' = some (.dT kvW) ∧ AWT k l (fun a b => a < i ∧ j < b ∧ (b - a) % 2 = 1) kvW ∧ i < j ∧ j < l.length ∧ (j - i) % 2 = 1 ∧ ∀ H', Same H H' → Q (nI (aw k l i j)) H'
theorem sc_around : FnScope ["k", "costs", "sums", "ways", "i", "j", "many", "found", "one", "other", "inside"] ["k", "costs", "sums", "ways", "i", "j"] (defScope s_around) := ⟨rfl, rfl, rfl, by decide +kernel, rfl, by decide +kernel, by decide +kernel⟩
theorem ok_around (T : Txt K mg) (F : FunP K "around" "around" s_around f fd) (g_pairs_of : Dk P w K mg base CX0 1 "pairs_of" ["k", "costs", "i", "j"] spPairs) : FnOk P w K mg base CX0 2 f fd ["k", "costs", "sums", "ways", "i", "j"] spAround := by
  refine F.ok sc_around (fun vs H Q E h => ?_) (fun cdv A outer s H vs Q E hr h => ?_)
  · obtain ⟨k, l, C, Sd, Wy, as, kvS, kvW, i, j, rfl, _⟩ := h
    rfl
  · obtain ⟨k, l, C, Sd, Wy, as, kvS, kvW, i, j, rfl, hk, hl, hev, eC, hA, eS, tS, eW, tW', hij, hj, hodd, q⟩ := h
    have hu := hu_of hr
    refine ⟨_, PSs.nox (pss_cons (ps_set (i := 6) sc_around.nd rfl (.inl rfl) (pe_callB call_len_seq (by rfl) T.b_len (by decide +kernel) (pa_cons (pv 1) pa_nil)))
       (pss_cons (ps_set (i := 7) sc_around.nd rfl (.inl rfl) pe_int)
       (pss_cons (ps_if (PW.pt (pw_and (pt_cmpR op_eq (pe_op op_mod (pv 4) pe_int) pe_int (nomark _)) (pw_and1 (pt_cmpR op_eq (pe_op op_mod (pe_op op_sub (pv 6) (pv 5)) pe_int) pe_int (nomark _)))))
        (pss_one (ps_set (i := 7) sc_around.nd rfl (.inl rfl) (pe_op op_mulW (pe_dget hu (pv 2) (pe_tup (pa_cons pe_int (pa_cons (pv 4) pa_nil))) (fun _ _ => rfl)) (pe_dget hu (pv 2) (pe_tup (pa_cons (pe_op op_add (pv 5) pe_int) (pa_cons (pv 6) pa_nil))) (fun _ _ => rfl)))))
        pss_nil)
       (pss_cons (ps_for PassesOwn.never rfl (pi_range3 rfl T.b_range (pa_cons (pe_op op_sub (pv 4) pe_int) (pa_cons (pe_un un_neg pe_int) (pa_cons (pe_un un_neg pe_int) pa_nil)))) (pg_name (i := 8) sc_around.nd rfl (.inl rfl))
        (pss_one (ps_for PassesOwn.never rfl (pi_range3 rfl T.b_range (pa_cons (pe_op op_add (pv 5) pe_int) (pa_cons (pv 6) (pa_cons pe_int pa_nil)))) (pg_name (i := 9) sc_around.nd rfl (.inl rfl))
        (pss_cons (ps_set (i := 10) sc_around.nd rfl (.inl rfl) (pe_op op_mulW (pe_dget hu (pv 2) (pe_tup (pa_cons (pe_op op_add (pv 8) pe_int) (pa_cons (pv 4) pa_nil))) (fun _ _ => rfl)) (pe_dget hu (pv 2) (pe_tup (pa_cons (pe_op op_add (pv 5) pe_int) (pa_cons (pv 9) pa_nil))) (fun _ _ => rfl))))
       (pss_one (ps_if (pt_cmpR op_gt (pv 10) pe_int (nomark _))
        (pss_one (ps_aug (i := 7) sc_around.nd rfl (.inl rfl) (pe_op op_mulW (pe_op op_mulW (pe_dget hu (pv 3) (pe_tup (pa_cons (pv 8) (pa_cons (pv 9) pa_nil))) (fun _ _ => rfl)) (g_pairs_of.call hr pass0 (pa_cons (pv 0) (pa_cons (pv 1) (pa_cons (pv 8) (pa_cons (pv 9) pa_nil)))))) (pv 10)) ip_add))
        pss_nil))))))
       (pss_one (ps_ret (pv 7))))))) , ?_⟩
    refine ⟨_, rfl, C, _, rfl, .inl (.inl (.inl eC)), ?_⟩
    rw [List.length_map, hA.1]
    obtain ⟨n, hn⟩ : ∃ n, n = l.length := ⟨_, rfl⟩
    rw [← hn]
    have getS : ∀ {H1 : Hp} {a b p : Nat} , Same H H1 → a ≤ b → b ≤ n → (b - a) % 2 = 0 → H1 p = some (.tup [nI a, nI b]) → DGet H1 Sd (.ref p) (some (nI (Wd k l a b))) := fun {H1 a b p} s1 h1 h2 h3 h4 =>
      dget_t (k := ky a b) (s1 _ _ eS) h4 (tab_get tS (by omega) (by omega) (by unfold TIn; omega))
    obtain ⟨G, hG⟩ : ∃ G : Nat → Nat, G = fun s => sumK ((n - j) / 2) fun t => aT (aw k l) k l i j s t := ⟨_, rfl⟩
    have hstep : aw k l i j = aB k l i j + sumK ((i + 1) / 2) G := by
      rw [aw_step, hG, hn]
      rfl
    -- found
    refine ⟨_, rfl, _, _, rfl, rfl, by show (0 : Int) < 2; decide, rfl, _, rfl, ?_⟩
    have e1 : decide (V.int ((i : Int) % 2) = V.int 0) = decide (i % 2 = 0) := by
      refine decide_eq_decide.mpr ⟨fun z => ?_, fun z => ?_⟩
      · have := V.int.inj z
        omega
      · congr 1
        omega
    rw [e1]
    have e2 : decide (V.int (((n : Int) - (j : Int)) % 2) = V.int 1) = decide ((n - j) % 2 = 1) := by
      refine decide_eq_decide.mpr ⟨fun z => ?_, fun z => ?_⟩
      · have := V.int.inj z
        omega
      · congr 1
        omega
    refine iteB (fun c1 => ?_) (fun c1 => ?_)
    · have c1' : i % 2 = 0 := of_decide_eq_true c1
      have c2' : (n - j) % 2 = 1 := by omega
      refine ⟨_, rfl, _, rfl, _, _, rfl, rfl, _, _, rfl, rfl, by show (0 : Int) < 2; decide, rfl, _, rfl, ?_⟩
      rw [e2, decide_eq_true c2']
      refine iteT ⟨_, rfl, _, rfl, by show 2 ≤ sizeLine; decide, fun p1 hp1 => ⟨Sd, _, rfl, getS (a := 0) (b := i) (same_upd hp1) (Nat.zero_le _) (by omega) (by omega) upd_same, ?_⟩⟩
      refine ⟨_, rfl, _, rfl, _, _, rfl, rfl, _, rfl, by show 2 ≤ sizeLine; decide, fun p2 hp2 => ⟨Sd, _, rfl, getS (a := j + 1) (b := n) ((same_upd hp1).trans (same_upd hp2)) (by omega) (Nat.le_refl _) (by omega) upd_same, ?_⟩⟩
      refine ⟨_, _, rfl, rfl, wide_of (Wd_le hk hl _ _) (Wd_le hk hl _ _) (by decide) (by decide) (by decide), ?_⟩
      have hF : V.int (((Wd k l 0 i : Nat) : Int) * ((Wd k l (j + 1) n : Nat) : Int)) = nI (aB k l i j + sumK 0 G) := by
        have e : aB k l i j + sumK 0 G = Wd k l 0 i * Wd k l (j + 1) n := by
          rw [sumK_zero]
          unfold aB
          rw [if_pos ⟨c1', by rw [← hn]; exact c2'⟩, ← hn]
          rfl
        rw [e]
        exact congrArg V.int (Int.natCast_mul _ _).symm
      have s1 := (same_upd (o := .tup [nI 0, nI i]) hp1).trans (same_upd (o := .tup [nI (j + 1), nI n]) hp2)
      refine ⟨_, rfl, _, _, rfl, rfl, 1, rfl, 2, rfl, (i : Int) - 1, -1, -2, (i + 1) / 2, rfl, rg_two_dn (by omega) (by omega) (by omega) (by omega) (by split <;> omega), ?_⟩
      refine for_it walk_rangeC (fun s' σ H' => ∃ (y8 y9 y10 : Option V), σ = [some (.int k), some (.ref C), some (.ref Sd), some (.ref Wy), some (nI i), some (nI j), some (.int n), some (nI (aB k l i j + sumK s' G)), y8, y9, y10] ∧ Same H H')
        ⟨none, none, none, congrArg (fun z => ([some (.int k), some (.ref C), some (.ref Sd), some (.ref Wy), some (nI i), some (nI j), some (.int n), some z, none, none, none] : L2.St)) hF, s1⟩ (fun _ _ _ _ _ => trivial) (fun u x σ H2 H3 hu' hP hY => ?_) (fun σ H2 hP => ?_)
      · obtain ⟨y8, y9, y10, rfl, s2⟩ := hP
        obtain ⟨rfl, hx⟩ := hY
        obtain ⟨o, ho⟩ : ∃ o, o = i - 1 - 2 * u := ⟨_, rfl⟩
        have hx' : x = nI o := hx.trans (congrArg V.int (show ((i : Int) - 1) + ((u : Nat) : Int) * (-2) = (o : Int) by omega))
        subst hx'
        clear hx
        obtain ⟨F0, hF0⟩ : ∃ F0, F0 = aB k l i j + sumK u G := ⟨_, rfl⟩
        have hF1 : aB k l i j + sumK (u + 1) G = F0 + G u := by
          rw [sumK_succ, hF0]
          omega
        rw [hF1, ← hF0]
        -- for other in range(j + 1, many, 2)
        refine ⟨_, rfl, _, _, rfl, rfl, _, rfl, ((j + 1 : Nat) : Int), (n : Int), 2, (n - (j + 1) + 1) / 2, rfl, rg_two (by omega) (by omega), ?_⟩
        rw [show (n - (j + 1) + 1) / 2 = (n - j) / 2 by omega]
        have hGu : G u = sumK ((n - j) / 2) fun t => aT (aw k l) k l i j u t := by rw [hG]
        refine for_it walk_rangeC (fun t σ H' => ∃ (y9 y10 : Option V), σ = [some (.int k), some (.ref C), some (.ref Sd), some (.ref Wy), some (nI i), some (nI j), some (.int n), some (nI (F0 + sumK t fun t => aT (aw k l) k l i j u t)), some (nI o), y9, y10] ∧ Same H H')
          ⟨_, _, rfl, s2⟩ (fun _ _ _ _ _ => trivial) (fun t x σ H4 H5 ht hP hY => ?_) (fun σ H4 hP => ?_)
        · obtain ⟨y9, y10, rfl, s4⟩ := hP
          obtain ⟨rfl, hx⟩ := hY
          obtain ⟨r, hr'⟩ : ∃ r, r = j + 1 + 2 * t := ⟨_, rfl⟩
          have hx' : x = nI r := hx.trans (congrArg V.int (show ((j + 1 : Nat) : Int) + ((t : Nat) : Int) * 2 = (r : Int) by omega))
          subst hx'
          clear hx
          have ho1 : o + 1 = i - 2 * u := by omega
          -- inside
          refine ⟨_, rfl, _, rfl, _, _, rfl, rfl, _, rfl, by show 2 ≤ sizeLine; decide, fun p3 hp3 => ⟨Sd, _, rfl, getS (a := o + 1) (b := i) (s4.trans (same_upd hp3)) (by omega) (by omega) (by omega) upd_same, ?_⟩⟩
          refine ⟨_, rfl, _, rfl, _, _, rfl, rfl, _, rfl, by show 2 ≤ sizeLine; decide, fun p4 hp4 => ⟨Sd, _, rfl, getS (a := j + 1) (b := r) ((s4.trans (same_upd hp3)).trans (same_upd hp4)) (by omega) (by omega) (by omega) upd_same, ?_⟩⟩
          have w1 := Wd_le hk hl (o + 1) i
          have w2 := Wd_le hk hl (j + 1) r
          have s5 := (s4.trans (same_upd (o := .tup [nI (o + 1), nI i]) hp3)).trans (same_upd (o := .tup [nI (j + 1), nI r]) hp4)
          refine ⟨_, _, rfl, rfl, wide_of w1 w2 (by decide) (by decide) (by decide), ?_⟩
          obtain ⟨I0, hI0⟩ : ∃ I0, I0 = Wd k l (o + 1) i * Wd k l (j + 1) r := ⟨_, rfl⟩
          have eI : ((Wd k l (o + 1) i : Nat) : Int) * ((Wd k l (j + 1) r : Nat) : Int) = ((I0 : Nat) : Int) := by
            rw [hI0]
            omega
          have hIlt : I0 < 2 ^ 200 := by
            rw [hI0]
            exact mul_lt w1 w2
          have hT : aT (aw k l) k l i j u t = aw k l o r * ways k (l.getD o 0) (l.getD r 0) * I0 := by
            unfold aT aI
            rw [← ho, ← hr', ← ho1, ← hI0]
          have hS2 : (sumK (t + 1) fun t => aT (aw k l) k l i j u t) = (sumK t fun t => aT (aw k l) k l i j u t) + aw k l o r * ways k (l.getD o 0) (l.getD r 0) * I0 := by
            rw [sumK_succ, hT]
          rw [hS2]
          refine ⟨_, rfl, _, _, rfl, rfl, _, rfl, ?_⟩
          refine iteB (fun c3 => ?_) (fun c3 => ?_)
          · have eW5 := s5 _ _ eW
            have hx1 := aw_lt hk hl r (show o ≤ 40 by omega)
            have hx2 : ways k (l.getD o 0) (l.getD r 0) < 2 ^ 10 := Nat.lt_of_le_of_lt (ways_le _ _ _) (by omega)
            refine ⟨_, rfl, _, rfl, _, rfl, _, rfl, by show 2 ≤ sizeLine; decide, fun p5 hp5 => ⟨Wy, _, rfl, dget_t (k := ky o r) (same_upd hp5 _ _ eW5) upd_same (tW' o r (by omega) ⟨by omega, by omega, by omega⟩), ?_⟩⟩
            have s6 := s5.trans (same_upd (o := .tup [nI o, nI r]) hp5)
            refine ⟨_, rfl, _, rfl, _, rfl, _, rfl, k, l, C, as, o, r, rfl, hk, hl, s6 _ _ eC, hA.same s6, by omega, by omega, fun H6 s7 => ?_⟩
            refine ⟨_, _, rfl, rfl, wide_of hx1 hx2 (by decide) (by decide) (by decide), _, rfl, ?_⟩
            refine ⟨_, _, rfl, rfl, ?_, _, _, rfl, rfl, some (nI r), some (V.int (((Wd k l (o + 1) i : Nat) : Int) * ((Wd k l (j + 1) r : Nat) : Int))), ?_, s6.trans s7⟩
            · rw [eI]
              exact wide_of (a := aw k l o r * ways k (l.getD o 0) (l.getD r 0)) (mul_lt hx1 hx2) hIlt (by decide) (by decide) (by decide)
            · show ([_, _, _, _, _, _, _, some (V.int (_ + _ * _ * (_ * _))), _, _, some (V.int (_ * _))] : L2.St) = _
              rw [eI, ← Nat.add_assoc]
              rfl
          · have hI00 : I0 = 0 := by
              have c4 := of_decide_eq_false c3
              rw [eI] at c4
              omega
            refine ⟨some (nI r), some (V.int (((Wd k l (o + 1) i : Nat) : Int) * ((Wd k l (j + 1) r : Nat) : Int))), ?_, s5⟩
            rw [hI00, Nat.mul_zero]
            rfl
        · obtain ⟨y9, y10, rfl, s4⟩ := hP
          rw [← hGu]
          exact ⟨_, _, _, rfl, s4⟩
      · obtain ⟨y8, y9, y10, rfl, s2⟩ := hP
        refine ⟨_, rfl, ?_⟩
        rw [← hstep]
        exact q _ s2
    · have c1' : ¬ i % 2 = 0 := of_decide_eq_false c1
      have hF : V.int 0 = nI (aB k l i j + sumK 0 G) := by
        have e : aB k l i j + sumK 0 G = 0 := by
          rw [sumK_zero]
          unfold aB
          rw [if_neg (fun z => c1' z.1)]
        rw [e]
        rfl
      have s1 := Same.refl H
      refine ⟨_, rfl, _, _, rfl, rfl, 1, rfl, 2, rfl, (i : Int) - 1, -1, -2, (i + 1) / 2, rfl, rg_two_dn (by omega) (by omega) (by omega) (by omega) (by split <;> omega), ?_⟩
      refine for_it walk_rangeC (fun s' σ H' => ∃ (y8 y9 y10 : Option V), σ = [some (.int k), some (.ref C), some (.ref Sd), some (.ref Wy), some (nI i), some (nI j), some (.int n), some (nI (aB k l i j + sumK s' G)), y8, y9, y10] ∧ Same H H')
        ⟨none, none, none, congrArg (fun z => ([some (.int k), some (.ref C), some (.ref Sd), some (.ref Wy), some (nI i), some (nI j), some (.int n), some z, none, none, none] : L2.St)) hF, s1⟩ (fun _ _ _ _ _ => trivial) (fun u x σ H2 H3 hu' hP hY => ?_) (fun σ H2 hP => ?_)
      · obtain ⟨y8, y9, y10, rfl, s2⟩ := hP
        obtain ⟨rfl, hx⟩ := hY
        obtain ⟨o, ho⟩ : ∃ o, o = i - 1 - 2 * u := ⟨_, rfl⟩
        have hx' : x = nI o := hx.trans (congrArg V.int (show ((i : Int) - 1) + ((u : Nat) : Int) * (-2) = (o : Int) by omega))
        subst hx'
        clear hx
        obtain ⟨F0, hF0⟩ : ∃ F0, F0 = aB k l i j + sumK u G := ⟨_, rfl⟩
        have hF1 : aB k l i j + sumK (u + 1) G = F0 + G u := by
          rw [sumK_succ, hF0]
          omega
        rw [hF1, ← hF0]
        -- for other in range(j + 1, many, 2)
        refine ⟨_, rfl, _, _, rfl, rfl, _, rfl, ((j + 1 : Nat) : Int), (n : Int), 2, (n - (j + 1) + 1) / 2, rfl, rg_two (by omega) (by omega), ?_⟩
        rw [show (n - (j + 1) + 1) / 2 = (n - j) / 2 by omega]
        have hGu : G u = sumK ((n - j) / 2) fun t => aT (aw k l) k l i j u t := by rw [hG]
        refine for_it walk_rangeC (fun t σ H' => ∃ (y9 y10 : Option V), σ = [some (.int k), some (.ref C), some (.ref Sd), some (.ref Wy), some (nI i), some (nI j), some (.int n), some (nI (F0 + sumK t fun t => aT (aw k l) k l i j u t)), some (nI o), y9, y10] ∧ Same H H')
          ⟨_, _, rfl, s2⟩ (fun _ _ _ _ _ => trivial) (fun t x σ H4 H5 ht hP hY => ?_) (fun σ H4 hP => ?_)
        · obtain ⟨y9, y10, rfl, s4⟩ := hP
          obtain ⟨rfl, hx⟩ := hY
          obtain ⟨r, hr'⟩ : ∃ r, r = j + 1 + 2 * t := ⟨_, rfl⟩
          have hx' : x = nI r := hx.trans (congrArg V.int (show ((j + 1 : Nat) : Int) + ((t : Nat) : Int) * 2 = (r : Int) by omega))
          subst hx'
          clear hx
          have ho1 : o + 1 = i - 2 * u := by omega
          -- inside
          refine ⟨_, rfl, _, rfl, _, _, rfl, rfl, _, rfl, by show 2 ≤ sizeLine; decide, fun p3 hp3 => ⟨Sd, _, rfl, getS (a := o + 1) (b := i) (s4.trans (same_upd hp3)) (by omega) (by omega) (by omega) upd_same, ?_⟩⟩
          refine ⟨_, rfl, _, rfl, _, _, rfl, rfl, _, rfl, by show 2 ≤ sizeLine; decide, fun p4 hp4 => ⟨Sd, _, rfl, getS (a := j + 1) (b := r) ((s4.trans (same_upd hp3)).trans (same_upd hp4)) (by omega) (by omega) (by omega) upd_same, ?_⟩⟩
          have w1 := Wd_le hk hl (o + 1) i
          have w2 := Wd_le hk hl (j + 1) r
          have s5 := (s4.trans (same_upd (o := .tup [nI (o + 1), nI i]) hp3)).trans (same_upd (o := .tup [nI (j + 1), nI r]) hp4)
          refine ⟨_, _, rfl, rfl, wide_of w1 w2 (by decide) (by decide) (by decide), ?_⟩
          obtain ⟨I0, hI0⟩ : ∃ I0, I0 = Wd k l (o + 1) i * Wd k l (j + 1) r := ⟨_, rfl⟩
          have eI : ((Wd k l (o + 1) i : Nat) : Int) * ((Wd k l (j + 1) r : Nat) : Int) = ((I0 : Nat) : Int) := by
            rw [hI0]
            omega
          have hIlt : I0 < 2 ^ 200 := by
            rw [hI0]
            exact mul_lt w1 w2
          have hT : aT (aw k l) k l i j u t = aw k l o r * ways k (l.getD o 0) (l.getD r 0) * I0 := by
            unfold aT aI
            rw [← ho, ← hr', ← ho1, ← hI0]
          have hS2 : (sumK (t + 1) fun t => aT (aw k l) k l i j u t) = (sumK t fun t => aT (aw k l) k l i j u t) + aw k l o r * ways k (l.getD o 0) (l.getD r 0) * I0 := by
            rw [sumK_succ, hT]
          rw [hS2]
          refine ⟨_, rfl, _, _, rfl, rfl, _, rfl, ?_⟩
          refine iteB (fun c3 => ?_) (fun c3 => ?_)
          · have eW5 := s5 _ _ eW
            have hx1 := aw_lt hk hl r (show o ≤ 40 by omega)
            have hx2 : ways k (l.getD o 0) (l.getD r 0) < 2 ^ 10 := Nat.lt_of_le_of_lt (ways_le _ _ _) (by omega)
            refine ⟨_, rfl, _, rfl, _, rfl, _, rfl, by show 2 ≤ sizeLine; decide, fun p5 hp5 => ⟨Wy, _, rfl, dget_t (k := ky o r) (same_upd hp5 _ _ eW5) upd_same (tW' o r (by omega) ⟨by omega, by omega, by omega⟩), ?_⟩⟩
            have s6 := s5.trans (same_upd (o := .tup [nI o, nI r]) hp5)
            refine ⟨_, rfl, _, rfl, _, rfl, _, rfl, k, l, C, as, o, r, rfl, hk, hl, s6 _ _ eC, hA.same s6, by omega, by omega, fun H6 s7 => ?_⟩
            refine ⟨_, _, rfl, rfl, wide_of hx1 hx2 (by decide) (by decide) (by decide), _, rfl, ?_⟩
            refine ⟨_, _, rfl, rfl, ?_, _, _, rfl, rfl, some (nI r), some (V.int (((Wd k l (o + 1) i : Nat) : Int) * ((Wd k l (j + 1) r : Nat) : Int))), ?_, s6.trans s7⟩
            · rw [eI]
              exact wide_of (a := aw k l o r * ways k (l.getD o 0) (l.getD r 0)) (mul_lt hx1 hx2) hIlt (by decide) (by decide) (by decide)
            · show ([_, _, _, _, _, _, _, some (V.int (_ + _ * _ * (_ * _))), _, _, some (V.int (_ * _))] : L2.St) = _
              rw [eI, ← Nat.add_assoc]
              rfl
          · have hI00 : I0 = 0 := by
              have c4 := of_decide_eq_false c3
              rw [eI] at c4
              omega
            refine ⟨some (nI r), some (V.int (((Wd k l (o + 1) i : Nat) : Int) * ((Wd k l (j + 1) r : Nat) : Int))), ?_, s5⟩
            rw [hI00, Nat.mul_zero]
            rfl
        · obtain ⟨y9, y10, rfl, s4⟩ := hP
          rw [← hGu]
          exact ⟨_, _, _, rfl, s4⟩
      · obtain ⟨y8, y9, y10, rfl, s2⟩ := hP
        refine ⟨_, rfl, ?_⟩
        rw [← hstep]
        exact q _ s2
end
end BR
set_option Elab.async false
set_option linter.all false
set_option maxRecDepth 100000
set_option maxHeartbeats 4000000
/-! D15: sure.py: partner_ways -/
namespace BR
open PySem PySem.Spec PyProof.Rows L2
/-- the keys of a dict: those of S -/
def KG {α κ : Type} (f : α → κ) (kvs : List (κ × V)) (S : α → Prop) : Prop := ∃ ms : List α, kvs.map (·.1) = ms.map f ∧ ms.Nodup ∧ ∀ m, m ∈ ms ↔ S m
section
variable {α κ : Type} [DecidableEq κ] [DecidableEq α] {f : α → κ} {kvs : List (κ × V)} {S : α → Prop}
theorem KG.nil : KG f [] (fun _ => False) := ⟨[], rfl, List.nodup_nil, fun m => by simp⟩
theorem KG.congr {S' : α → Prop} (h : KG f kvs S) (e : ∀ m, S m ↔ S' m) : KG f kvs S' := by
  obtain ⟨ms, h1, h2, h3⟩ := h
  exact ⟨ms, h1, h2, fun m => (h3 m).trans (e m)⟩
theorem KG.put (inj : ∀ a b, f a = f b → a = b) (h : KG f kvs S) (m : α) (v : V) : KG f (putK kvs (f m) v) (fun x => S x ∨ x = m) := by
  obtain ⟨ms, e, nd, hm⟩ := h
  have hany : (kvs.any fun kv => decide (kv.1 = f m)) = decide (m ∈ ms) := by
    have h1 : (kvs.any fun kv => decide (kv.1 = f m)) = (kvs.map (·.1)).any fun k => decide (k = f m) := by rw [List.any_map]; rfl
    rw [h1, e, List.any_map]
    by_cases q : m ∈ ms
    · rw [decide_eq_true q]
      exact List.any_eq_true.mpr ⟨m, q, by simp⟩
    · rw [decide_eq_false q]
      refine Bool.eq_false_iff.mpr fun z => ?_
      obtain ⟨x, hx, hx2⟩ := List.any_eq_true.mp z
      exact q (inj _ _ (of_decide_eq_true hx2) ▸ hx)
  unfold putK
  rw [hany]
  by_cases q : m ∈ ms
  · rw [if_pos (decide_eq_true q)]
    refine ⟨ms, ?_, nd, fun x => ?_⟩
    · rw [List.map_map, ← e]
      refine List.map_congr_left fun kv _ => ?_
      show (if kv.1 = f m then (kv.1, v) else kv).1 = kv.1
      split <;> rfl
    · rw [hm]
      exact ⟨.inl, fun z => z.elim id fun z => by rw [z]; exact (hm m).mp q⟩
  · rw [if_neg (by simpa using q)]
    refine ⟨ms ++ [m], ?_, ?_, fun x => ?_⟩
    · rw [List.map_append, e, List.map_append]
      rfl
    · rw [List.nodup_append]
      exact ⟨nd, by simp, fun a ha b hb z => q (by rw [List.mem_singleton] at hb; rw [← hb, ← z]; exact ha)⟩
    · rw [List.mem_append, hm, List.mem_singleton]
theorem KG.len (h : KG f kvs S) {L : List α} (hS : ∀ m, S m → m ∈ L) : kvs.length ≤ L.length := by
  obtain ⟨ms, h1, h2, h3⟩ := h
  have e : kvs.length = ms.length := by
    have := congrArg List.length h1
    simpa using this
  rw [e]
  exact List.Nodup.length_le_of_subset h2 fun m hm => hS m ((h3 m).mp hm)
end
def kP (p : Nat × Nat) : List L2.Key := ky p.1 p.2
theorem kP_inj (a b : Nat × Nat) (h : kP a = kP b) : a = b := by
  obtain ⟨h1, h2⟩ := ky_inj h
  exact Prod.ext h1 h2
/-- a table by pairs: the pairs of S, each with its own -/
def PT (g : Nat → Nat → Nat) (S : Nat → Nat → Prop) (kvs : List (List L2.Key × V)) : Prop := KG kP kvs (fun p => S p.1 p.2) ∧ ∀ i j, S i j → valV kvs (ky i j) = some (nI (g i j))
theorem PT.nil {g : Nat → Nat → Nat} : PT g (fun _ _ => False) [] := ⟨KG.nil, fun i j h => h.elim⟩
theorem PT.congr {g : Nat → Nat → Nat} {S S' : Nat → Nat → Prop} {kvs : List (List L2.Key × V)} (h : PT g S kvs) (e : ∀ i j, S i j ↔ S' i j) : PT g S' kvs := ⟨h.1.congr fun p => e p.1 p.2, fun i j z => h.2 i j ((e i j).mpr z)⟩
theorem PT.put {g : Nat → Nat → Nat} {S : Nat → Nat → Prop} {kvs : List (List L2.Key × V)} (h : PT g S kvs) (a b : Nat) : PT g (fun i j => S i j ∨ (i = a ∧ j = b)) (putK kvs (ky a b) (nI (g a b))) := by
  refine ⟨(h.1.put kP_inj (a, b) (nI (g a b))).congr fun p => ?_, fun i j z => ?_⟩
  · constructor
    · rintro (z | z)
      · exact .inl z
      · exact .inr ⟨congrArg Prod.fst z, congrArg Prod.snd z⟩
    · rintro (z | ⟨z1, z2⟩)
      · exact .inl z
      · exact .inr (Prod.ext z1 z2)
  · rw [valV_put]
    by_cases e : ky i j = ky a b
    · obtain ⟨rfl, rfl⟩ := ky_inj e
      rw [if_pos rfl]
    · rw [if_neg e]
      rcases z with z | ⟨rfl, rfl⟩
      · exact h.2 i j z
      · exact absurd rfl e
theorem SameX.upn {d : Addr} {H H1 : Hp} {p : Addr} {o : HO} (s : SameX d H H1) (h : H p = none) : SameX d H (upd H1 p o) := fun b x n e => by
  rw [upd_ne (ne_of_none e h)]
  exact s b x n e
theorem SameX.free {d : Addr} {H H1 : Hp} {p : Addr} (s : SameX d H H1) (n : p ≠ d) (h : H1 p = none) : H p = none := by
  cases e : H p with
  | none => rfl
  | some o =>
    rw [s p o n e] at h
    cases h
/-- the pairs that may be partners -/
def Pr (n i j : Nat) : Prop := i < j ∧ j < n ∧ (j - i) % 2 = 1
/-- those of the first r sizes, and c of the next -/
def PrS (n r c i j : Nat) : Prop := Pr n i j ∧ (n < j - i + 1 + 2 * r ∨ (j - i + 1 + 2 * r = n ∧ i < c))
section
variable {P : Program} {w : World} {K : PySem.W.Frag} {mg : Str → Option Value} {base : Heap} {f : Addr} {fd : FuncData}
def spPartW : Sp := fun vs H Q _ => ∃ (k : Nat) (l : List Nat), vs = [.int k, .str (Tx l)] ∧ k ≤ 4 ∧ l.length ≤ 40 ∧ l.length % 2 = 0 ∧ ∀ H' d kvs, Same H H' → H d = none → H' d = some (.dT kvs) → PT (pW k l) (Pr l.length) kvs → Q (.ref d) H'
theorem sc_partner_ways : FnScope ["k", "row", "costs", "sums", "many", "ways", "size", "i", "found", "j"] ["k", "row"] (defScope s_partner_ways) := ⟨rfl, rfl, rfl, by decide +kernel, rfl, by decide +kernel, by decide +kernel⟩
theorem ok_partner_ways (T : Txt K mg) (F : FunP K "partner_ways" "partner_ways" s_partner_ways f fd) (g_costs_of : Dk P w K mg base CX0 2 "costs_of" ["k", "row"] spCostsOf) (g_sums_within : Dk P w K mg base CX0 1 "sums_within" ["k", "costs"] spSums)
    (g_around : Dk P w K mg base CX0 2 "around" ["k", "costs", "sums", "ways", "i", "j"] spAround) : FnOk P w K mg base CX0 3 f fd ["k", "row"] spPartW := by
  refine F.ok sc_partner_ways (fun vs H Q E h => ?_) (fun cdv A outer s H vs Q E hr h => ?_)
  · obtain ⟨k, l, rfl, _⟩ := h
    rfl
  · obtain ⟨k, l, rfl, hk, hl, hev, q⟩ := h
    have hu := hu_of hr
    refine ⟨_, PSs.nox (pss_cons (ps_set (i := 2) sc_partner_ways.nd rfl (.inl rfl) (g_costs_of.call hr pass0 (pa_cons (pv 0) (pa_cons (pv 1) pa_nil))))
       (pss_cons (ps_set (i := 3) sc_partner_ways.nd rfl (.inl rfl) (g_sums_within.call hr pass0 (pa_cons (pv 0) (pa_cons (pv 2) pa_nil))))
       (pss_cons (ps_set (i := 4) sc_partner_ways.nd rfl (.inl rfl) (pe_callB call_len_str (by rfl) T.b_len (by decide +kernel) (pa_cons (pv 1) pa_nil)))
       (pss_cons (ps_set (i := 5) sc_partner_ways.nd rfl (.inl rfl) pe_dnewT)
       (pss_cons (ps_for PassesOwn.never rfl (pi_range3 rfl T.b_range (pa_cons (pv 4) (pa_cons pe_int (pa_cons (pe_un un_neg pe_int) pa_nil)))) (pg_name (i := 6) sc_partner_ways.nd rfl (.inl rfl))
        (pss_one (ps_for PassesOwn.never rfl (pi_range1 rfl T.b_range (pa_cons (pe_op op_add (pe_op op_sub (pv 4) (pv 6)) pe_int) pa_nil)) (pg_name (i := 7) sc_partner_ways.nd rfl (.inl rfl))
        (pss_one (ps_dput hu (pv 5) (pe_tup (pa_cons (pv 7) (pa_cons (pe_op op_sub (pe_op op_add (pv 7) (pv 6)) pe_int) pa_nil))) (g_around.call hr pass0 (pa_cons (pv 0) (pa_cons (pv 2) (pa_cons (pv 3) (pa_cons (pv 5) (pa_cons (pv 7) (pa_cons (pe_op op_sub (pe_op op_add (pv 7) (pv 6)) pe_int) pa_nil))))))) rfl)))))
       (pss_cons (ps_set (i := 8) sc_partner_ways.nd rfl (.inl rfl) pe_dnewT)
       (pss_cons (ps_lock (ps_for PassesOwn.never rfl (pi_keys (pv 5)) (pg_tup (by rfl) (pgs_cons (pg_name (i := 7) sc_partner_ways.nd rfl (.inl rfl)) (pgs_cons (pg_name (i := 9) sc_partner_ways.nd rfl (.inl rfl)) pgs_nil)))
        (pss_one (ps_dput hu (pv 8) (pe_tup (pa_cons (pv 7) (pa_cons (pv 9) pa_nil))) (pe_op op_mulW (pe_dget hu (pv 5) (pe_tup (pa_cons (pv 7) (pa_cons (pv 9) pa_nil))) (fun _ _ => rfl)) (pe_dget hu (pv 3) (pe_tup (pa_cons (pe_op op_add (pv 7) pe_int) (pa_cons (pv 9) pa_nil))) (fun _ _ => rfl))) rfl))))
       (pss_one (ps_ret (pv 8)))))))))) , ?_⟩
    have hln : (Tx l).length ≤ sizeLine := by rw [Tx_len]; exact sl_le (by omega)
    refine ⟨_, rfl, _, rfl, k, l, rfl, hk, hl, fun H1 C as s1 hC eC hA => ?_⟩
    refine ⟨_, rfl, _, rfl, k, l, C, as, rfl, hk, hl, eC, hA, fun H2 Sd kvS s2 hSd eS tS => ?_⟩
    refine ⟨_, rfl, _, rfl, hln, fun d hd => ?_⟩
    rw [Tx_len]
    obtain ⟨n, hn⟩ : ∃ n, n = l.length := ⟨_, rfl⟩
    rw [← hn]
    have s12 : Same H H2 := s1.trans s2
    have hHd : H d = none := s12.free hd
    have eC2 := s2 _ _ eC
    have hA2 := hA.same s2
    -- for size in range(many, 1, -2)
    refine ⟨_, rfl, 2, rfl, (n : Int), 1, -2, n / 2, rfl, rg_two_dn (by omega) (by omega) (by omega) (by omega) (by split <;> omega), ?_⟩
    refine for_it walk_rangeC (fun r σ H' => ∃ (y6 y7 y8 y9 : Option V) (kvs : List (List L2.Key × V)), σ = [some (.int k), some (.str (Tx l)), some (.ref C), some (.ref Sd), some (.int n), some (.ref d), y6, y7, y8, y9] ∧ SameX d H2 H' ∧ H' d = some (.dT kvs) ∧ PT (aw k l) (PrS n r 0) kvs ∧ kvs.length ≤ 50 * r)
      ⟨none, none, none, none, [], rfl, same_x, upd_same, PT.nil.congr fun i j => ?_, Nat.le_refl _⟩ (fun _ _ _ _ _ => trivial) (fun r x σ H3 H4 hr' hP hY => ?_) (fun σ H3 hP => ?_)
    · unfold PrS Pr
      constructor
      · exact False.elim
      · omega
    · obtain ⟨y6, y7, y8, y9, kvs, rfl, s3, ed, tb, hlk⟩ := hP
      obtain ⟨rfl, hx⟩ := hY
      obtain ⟨z, hz⟩ : ∃ z, z = n - 2 * r := ⟨_, rfl⟩
      have hx' : x = nI z := hx.trans (congrArg V.int (show (n : Int) + ((r : Nat) : Int) * (-2) = (z : Int) by omega))
      subst hx'
      clear hx
      -- for i in range(many - size + 1)
      refine ⟨_, rfl, _, rfl, _, _, rfl, rfl, _, _, rfl, rfl, _, rfl, by omega, by omega, ?_⟩
      rw [show ((n : Int) - (z : Int) + 1).toNat = 2 * r + 1 by omega]
      refine for_it walk_range (fun c σ H' => ∃ (y7 y8 y9 : Option V) (kvs : List (List L2.Key × V)), σ = [some (.int k), some (.str (Tx l)), some (.ref C), some (.ref Sd), some (.int n), some (.ref d), some (nI z), y7, y8, y9] ∧ SameX d H2 H' ∧ H' d = some (.dT kvs) ∧ PT (aw k l) (PrS n r c) kvs ∧ kvs.length ≤ 50 * r + c)
        ⟨_, _, _, kvs, rfl, s3, ed, tb, hlk⟩ (fun _ _ _ _ _ => trivial) (fun c x σ H5 H6 hc hP hY => ?_) (fun σ H5 hP => ?_)
      · obtain ⟨y7, y8, y9, kv, rfl, s5, e5, tb5, hl5⟩ := hP
        obtain ⟨rfl, hx⟩ := hY
        have hx' : x = nI c := hx.trans (congrArg V.int (Int.zero_add _))
        subst hx'
        clear hx
        obtain ⟨j, hj⟩ : ∃ j, j = c + z - 1 := ⟨_, rfl⟩
        have ej : V.int ((c : Int) + (z : Int) - 1) = nI j := congrArg V.int (by omega)
        have hCd : C ≠ d := ne_of_none eC2 hd
        have hSdd : Sd ≠ d := ne_of_none eS hd
        have hA6 : CostAt H6 k l as := ⟨hA2.1, fun i a ha => by
          obtain ⟨kv0, h1, h2⟩ := hA2.2 i a ha
          exact ⟨kv0, s5 _ _ (ne_of_none h1 hd) h1, h2⟩⟩
        refine ⟨_, rfl, _, rfl, _, rfl, _, rfl, _, rfl, _, rfl, _, rfl, _, _, rfl, rfl, _, _, rfl, rfl, k, l, C, Sd, d, as, kvS, kv, c, j, congrArg (fun z => [V.int (k : Int), .ref C, .ref Sd, .ref d, nI c, z]) ej, hk, hl, by omega, s5 _ _ hCd eC2, hA6, s5 _ _ hSdd eS, tS, e5, ?_, by omega, by omega, by omega, fun H7 s7 => ?_⟩
        · intro a b hb ⟨h1, h2, h3⟩
          refine tb5.2 a b ?_
          unfold PrS Pr
          omega
        · refine ⟨_, rfl, _, rfl, _, rfl, _, rfl, _, _, rfl, rfl, _, _, rfl, rfl, by show 2 ≤ sizeLine; decide, fun p hp => ?_⟩
          have a1 := same_upd (o := .tup [nI c, V.int ((c : Int) + (z : Int) - 1)]) hp
          refine ⟨d, _, rfl, DPut.t (k := ky c j) (a1 _ _ (s7 _ _ e5)) (upd_same.trans (congrArg (fun z => some (HO.tup [nI c, z])) ej)) (sl_lt (by omega)), ?_⟩
          refine ⟨_, _, _, putK kv (ky c j) (nI (aw k l c j)), rfl, ((s5.trans (sameX s7)).trans (sameX a1)).up, upd_same, (tb5.put c j).congr fun i' j' => ?_, Nat.le_trans (putK_ln _ _ _) (by omega)⟩
          unfold PrS Pr
          constructor
          · rintro (h | ⟨rfl, rfl⟩) <;> omega
          · intro h
            omega
      · obtain ⟨y7, y8, y9, kv, rfl, s5, e5, tb5, hl5⟩ := hP
        refine ⟨_, _, _, _, kv, rfl, s5, e5, tb5.congr fun i j => ?_, by omega⟩
        unfold PrS Pr
        omega
    · obtain ⟨y6, y7, y8, y9, kvs, rfl, s3, ed, tb, hlk⟩ := hP
      have tb2 : PT (aw k l) (Pr n) kvs := tb.congr fun i j => by
        unfold PrS Pr
        omega
      -- found = {}
      refine fun D hD => ?_
      have nDd : D ≠ d := fun z => by
        rw [z, ed] at hD
        cases hD
      have hD2 : H2 D = none := s3.free nDd hD
      obtain ⟨ms, hkeys, nd, hmem⟩ := tb2.1
      have hlen : kvs.length = ms.length := by
        have := congrArg List.length hkeys
        simpa using this
      have hCd : C ≠ d := ne_of_none eC2 hd
      have hSdd : Sd ≠ d := ne_of_none eS hd
      -- for i, j in ways
      refine ⟨d, .dT kvs, (upd_ne nDd.symm).trans ed, trivial, fun od => ?_⟩
      refine ⟨_, rfl, d, od, rfl, .inr ⟨kvs, upd_same, ?_⟩⟩
      refine for_it walk_keysT (fun t σ H' => ∃ (y7 y9 : Option V) (kvF : List (List L2.Key × V)), σ = [some (.int k), some (.str (Tx l)), some (.ref C), some (.ref Sd), some (.int n), some (.ref d), y6, y7, some (.ref D), y9] ∧ SameX d H2 H' ∧ H' d = some (.frz od (.dT kvs)) ∧ H' D = some (.dT kvF) ∧
          PT (pW k l) (fun i j => (i, j) ∈ ms.take t) kvF ∧ kvF.length ≤ t)
        ⟨y7, y9, [], rfl, (s3.upn hD2).up, upd_same, (upd_ne nDd).trans upd_same, PT.nil.congr fun i j => by simp, Nat.le_refl _⟩ (fun t σ H' _ hP => ?_) (fun t x σ H5 H6 ht hP hY => ?_) (fun σ H5 hP => ?_)
      · obtain ⟨_, _, _, _, _, h, _⟩ := hP
        exact h
      · obtain ⟨y7, y9, kvF, rfl, s5, e5, eD5, tF, hlF⟩ := hP
        obtain ⟨rfl, kk, vv, qa, hkv, rfl, hqa⟩ := hY
        obtain ⟨⟨a, b⟩, hab⟩ : ∃ ab, ms[t]? = some ab := ⟨ms[t]'(by omega), by simp [show t < ms.length by omega]⟩
        have hkk : kk = ky a b := by
          have h1 : (kvs.map (·.1))[t]? = some kk := by rw [List.getElem?_map, hkv]; rfl
          rw [hkeys, List.getElem?_map, hab] at h1
          exact (Option.some.inj h1).symm
        subst hkk
        obtain ⟨h1, h2, h3⟩ : Pr n a b := (hmem (a, b)).mp (List.mem_of_getElem? hab)
        refine ⟨qa, [nI a, nI b], rfl, SqT.of hqa, rfl, _, _, rfl, _, _, rfl, rfl, ?_⟩
        have w1 := aw_lt hk hl b (show a ≤ 40 by omega)
        have w2 := Wd_le hk hl (a + 1) b
        refine ⟨_, rfl, _, rfl, _, rfl, by show 2 ≤ sizeLine; decide, fun p1 hp1 => ⟨d, _, rfl, .inr ⟨kvs, ky a b, p1, .inr ⟨od, same_upd hp1 _ _ e5⟩, rfl, upd_same, (tb2.2 a b ⟨h1, h2, h3⟩).symm⟩, ?_⟩⟩
        refine ⟨_, rfl, _, rfl, _, _, rfl, rfl, _, rfl, by show 2 ≤ sizeLine; decide, fun p2 hp2 => ⟨Sd, _, rfl, dget_t (k := ky (a + 1) b) (same_upd hp2 _ _ (same_upd hp1 _ _ (s5 _ _ hSdd eS))) upd_same (tab_get tS (by omega) (by omega) (by unfold TIn; omega)), ?_⟩⟩
        refine ⟨_, _, rfl, rfl, wide_of w1 w2 (by decide) (by decide) (by decide), ?_⟩
        refine ⟨_, rfl, _, rfl, _, rfl, by show 2 ≤ sizeLine; decide, fun p3 hp3 => ?_⟩
        have a3 := ((same_upd (o := .tup [nI a, nI b]) hp1).trans (same_upd (o := .tup [nI (a + 1), nI b]) hp2)).trans (same_upd (o := .tup [nI a, nI b]) hp3)
        refine ⟨D, _, rfl, DPut.t (k := ky a b) (a3 _ _ eD5) upd_same (sl_lt (by omega)), ?_⟩
        have eV : V.int (((aw k l a b : Nat) : Int) * ((Wd k l (a + 1) b : Nat) : Int)) = nI (pW k l a b) := congrArg V.int (Int.natCast_mul _ _).symm
        refine ⟨_, _, putK kvF (ky a b) (nI (pW k l a b)), rfl, (s5.trans (sameX a3)).upn hD2, ?_, ?_, (tF.put a b).congr fun i j => ?_, Nat.le_trans (putK_ln _ _ _) (by omega)⟩
        · rw [upd_ne nDd.symm]
          exact a3 _ _ e5
        · rw [← eV]
          exact upd_same
        · show ((i, j) ∈ ms.take t ∨ (i = a ∧ j = b)) ↔ (i, j) ∈ ms.take (t + 1)
          rw [List.take_add_one, hab, List.mem_append]
          simp
      · obtain ⟨y7, y9, kvF, rfl, s5, e5, eD5, tF, hlF⟩ := hP
        refine ⟨e5, _, rfl, ?_⟩
        have hDH : H D = none := s12.free hD2
        refine q _ D kvF ((((sameX s12).trans s5).up).new hHd) hDH ((upd_ne nDd).trans eD5) ?_
        rw [← hn]
        rw [hlen, List.take_length] at tF
        exact tF.congr fun i j => hmem (i, j)
end
end BR
set_option Elab.async false
set_option linter.all false
set_option maxRecDepth 100000
set_option maxHeartbeats 4000000
/-! K3: sorted of a dict whose keys are pairs of ints, however many -/
namespace BR
open PySem PySem.Spec PyProof.Rows L2
/-- every key is a pair of ints -/
def Pairs (kvs : List (List L2.Key × V)) : Prop := ∀ kv ∈ kvs, ∃ i j : Int, kv.1 = [Sum.inl i, Sum.inl j]
theorem isKeys_mem {H : Hp} {kvs : List (List L2.Key × V)} {bs : List Addr} (h : IsKeys H kvs bs) : ∀ b ∈ bs, ∃ kv ∈ kvs, H b = some (.tup (kv.1.map kV)) := by
  unfold IsKeys at h
  induction h with
  | nil => exact fun b hb => (by cases hb)
  | @cons p b r t h1 h2 ih =>
    intro c hc
    rcases List.mem_cons.mp hc with e | e
    · rw [e]
      exact ⟨p, List.mem_cons_self, h1⟩
    · obtain ⟨kv, m, e2⟩ := ih c e
      exact ⟨kv, List.mem_cons_of_mem _ m, e2⟩
theorem back_ref : ∀ bs : List Addr, (bs.map Value.ref).map backV = bs.map V.ref
  | [] => rfl
  | b :: r => by
    rw [List.map_cons, List.map_cons, back_ref r]
    rfl
section
variable {X : Cx}
theorem cr_sortedDT (hc : X.calm = true) : CallR X (.builtin "sorted") (fun xs H Q => ∃ (d : Addr) (kvs : List (List L2.Key × V)), xs = [.ref d] ∧ Rd H d (.dT kvs) ∧ Pairs kvs ∧
    ∀ (p : Addr) (bs ys : List Addr), H p = none → IsKeys H kvs bs → ys.Perm bs → Q (.ref p) (upd H p (.lst (ys.map V.ref)))) := by
  intro pins s σ H xs us Q I r q
  obtain ⟨d, kvs, rfl, hd, hp, q⟩ := q
  obtain ⟨u, rfl, ru⟩ := r.one
  cases ru
  obtain ⟨z, hs, ks, pr, ob, es, ep, hob, hex, hdt, hen, hnn⟩ := (show ObjOk X.prog X.w H s.heap d (.dT kvs) from hd.ok I.hok)
  have n1 : es.size = ks.length := size_of_entries hen
  have n2 : kvs.length = ks.length := Paired.length pr
  refine Calls.call_function_entry PyProof.Rows.kind_sorted PyProof.Rows.plain_sorted PyProof.Rows.entry_sorted (PyProof.Rows.args_sorted1 _) ?_
  unfold Builtin.«sorted»
  refine wpAny_bind (m := checkCount "sorted" 1 1 _) (wpAny_pure ?_)
  refine wpAny_bind (PySem.W.kdu_collect (A := X.A.in1) (kdl_raw hs hex hdt) (I.ok.hd hc) hob (by omega) fun h2 tk acc kp it => ?_)
  have hlen : acc.toList.length = ks.length := by
    rw [Array.length_toList, it.1]
    exact n1
  have eacc : acc.toList = (ks.map fun x => x.2.1).map Value.ref := by
    apply List.ext_getElem?
    intro j
    rw [List.map_map, List.getElem?_map]
    cases hj : acc.toList[j]? with
    | none =>
      have m1 := List.getElem?_eq_none_iff.mp hj
      rw [List.getElem?_eq_none (by omega)]
      rfl
    | some v =>
      obtain ⟨en, he1, hv⟩ := it.2 j v (by rw [← Array.getElem?_toList]; exact hj)
      have qe := entry_at hen j
      rw [he1] at qe
      cases hb : ks[j]? with
      | none =>
        rw [hb] at qe
        exact nomatch (show some en = none from qe)
      | some b =>
        rw [hb] at qe
        have e2 : en = entryOfKey (tupleKind (mixKind X.prog X.w)) b := Option.some.inj qe
        rw [hv, e2]
        rfl
  have hkeys := isKeys_of pr
  obtain ⟨bs, hbs⟩ : ∃ bs, bs = ks.map fun x => x.2.1 := ⟨_, rfl⟩
  rw [← hbs] at eacc hkeys
  have hz : acc.toList.length ≤ sizeLine := by omega
  have I1 : Inv X pins σ H { s with heap := h2, toks := tk } := I.kept kp
  refine wpAny_bind (wpAny_newList ?_ hz)
  have at_l : (h2.push (seqObj "list" acc.toList.toArray 0)).get? h2.objs.size = some (seqObj "list" acc.toList.toArray 0) := Heap.get?_push_size _ rfl
  have I2 : Inv X pins σ H { s with heap := h2.push (seqObj "list" acc.toList.toArray 0), toks := tk } := I1.kept (t' := tk) fun b o e => Heap.get?_push_of_some _ e
  show wpAny _ _ _ _ _ { s with heap := h2.push (seqObj "list" acc.toList.toArray 0), toks := tk }
  refine wpAny_bind (wpAny_holding (wpAny_call_entry PyProof.Rows.slot_list_sort ⟨_, at_l, rfl⟩ PyProof.Rows.entry_list_sort
    (Srt.list_sort_any (s := { s with heap := h2.push (seqObj "list" acc.toList.toArray 0), toks := tk }) at_l hz (fun m2 => ?_) fun out ho => ⟨_, rfl, ?_⟩) (PyProof.Rows.args_list_sort _)))
  · refine Srt.pairs_sortable (s := { s with heap := h2.push (seqObj "list" acc.toList.toArray 0), toks := tk }) (by omega) (fun v hv => ?_) fun o e => ?_
    · rw [eacc] at hv
      obtain ⟨b, hb, rfl⟩ := List.mem_map.mp hv
      obtain ⟨kv, hkv, eb⟩ := isKeys_mem hkeys b hb
      obtain ⟨i, j, e3⟩ := hp kv hkv
      rw [e3] at eb
      obtain ⟨_, its, rv, o, ho, hoc, n, hod⟩ := (show ObjOk X.prog X.w H (h2.push (seqObj "list" acc.toList.toArray 0)) b (.tup _) from I2.hok b _ eb)
      obtain ⟨u1, u2, rfl, ri, rj⟩ := vals2 rv
      obtain ⟨t1, rfl⟩ := ri
      obtain ⟨t2, rfl⟩ := rj
      exact ⟨i, j, b, o, t1, t2, n, rfl, ho, hoc, hod⟩
    · have e' : some o = some (seqObj "list" acc.toList.toArray 0) := e.symm.trans at_l
      cases e'
      intro c
      exact absurd (Value.type.inj c) (by decide)
  · rw [eacc] at ho
    obtain ⟨e', he'⟩ := PyProof.Rows.sortedHeap_at (vs := acc.toList) (out := out.toArray) at_l
    obtain ⟨ys, hys⟩ : ∃ ys : List Addr, out = ys.map Value.ref := by
      refine ⟨out.map fun v => match v with | .ref a => a | _ => 0, ?_⟩
      rw [List.map_map]
      have : ∀ v ∈ out, (Value.ref ∘ fun v => match v with | .ref a => a | _ => 0) v = v := fun v hv => by
        have m := ho.mem_iff.mp hv
        obtain ⟨b, _, rfl⟩ := List.mem_map.mp m
        rfl
      rw [List.map_congr_left this, List.map_id']
    have hperm : ys.Perm bs := by
      rw [hys] at ho
      have h3 := ho.map fun v : Value => match v with | .ref a => a | _ => (0 : Addr)
      rw [List.map_map, List.map_map] at h3
      have i1 : ∀ l : List Addr, l.map ((fun v : Value => match v with | .ref a => a | _ => (0 : Addr)) ∘ Value.ref) = l := fun l => List.map_id' l
      rw [i1, i1] at h3
      exact h3
    have hl2 : (ys.map V.ref).length ≤ sizeLine := by
      have e1 : out.length = acc.toList.length := by rw [eacc]; exact ho.length_eq
      have e2 : out.length = ys.length := by rw [hys, List.length_map]
      rw [List.length_map, ← e2, e1]
      exact hz
    refine wpAny_pure ⟨_, rfl, .ref h2.objs.size, upd H h2.objs.size (.lst (ys.map V.ref)), I1.laid (t' := tk) (fun b u e => ?_) (Nat.le_refl _)
      (show ObjOk X.prog X.w _ _ _ (.lst (ys.map V.ref)) from ⟨hl2, out, e', by rw [hys]; exact vals_refs ys, he'⟩), rfl, q _ bs ys (I1.hok.fresh (Nat.le_refl _)) hkeys hperm⟩
    have hb : b < h2.objs.size := Heap.lt_size e
    rw [PyProof.Rows.sortedHeap_old (Nat.ne_of_lt hb) (by rw [size_push']; exact Nat.lt_succ_of_lt hb)]
    exact Heap.get?_push_of_some _ e
end
end BR
set_option Elab.async false
set_option linter.all false
set_option maxRecDepth 100000
set_option maxHeartbeats 4000000
/-! D16: sure.py: counts_by_place -/
namespace BR
open PySem PySem.Spec PyProof.Rows L2
def mv (k : Nat) (l : List Nat) (i j κ : Nat) : Nat := pW k l i j * lN (l.getD i 0) (br (2 * κ)) * lN (l.getD j 0) (br (2 * κ + 1))
/-- the pair (i, j) by the kind κ tells of the bracket c at the place p -/
def Hit (k : Nat) (l : List Nat) (i j κ p c : Nat) : Prop := 0 < mv k l i j κ ∧ ((p = i ∧ c = br (2 * κ)) ∨ (p = j ∧ c = br (2 * κ + 1)))
/-- may the bracket c stand at the place p -/
def SSb (k : Nat) (l : List Nat) (p c : Nat) : Bool := (List.range l.length).any fun i => (List.range l.length).any fun j => (List.range k).any fun κ =>
  decide (i < j) && decide ((j - i) % 2 = 1) && decide (0 < mv k l i j κ) && ((decide (p = i) && decide (c = br (2 * κ))) || (decide (p = j) && decide (c = br (2 * κ + 1))))
theorem SSb_iff {k : Nat} {l : List Nat} {p c : Nat} : SSb k l p c = true ↔ ∃ i j κ, Pr l.length i j ∧ κ < k ∧ Hit k l i j κ p c := by
  unfold SSb Hit Pr
  simp only [List.any_eq_true, List.mem_range, Bool.and_eq_true, Bool.or_eq_true, decide_eq_true_eq]
  constructor
  · rintro ⟨i, hi, j, hj, κ, hκ, ⟨⟨⟨h1, h2⟩, h3⟩, h4⟩⟩
    exact ⟨i, j, κ, ⟨h1, hj, h2⟩, hκ, h3, h4⟩
  · rintro ⟨i, j, κ, ⟨h1, hj, h2⟩, hκ, h3, h4⟩
    exact ⟨i, by omega, j, hj, κ, hκ, ⟨⟨⟨h1, h2⟩, h3⟩, h4⟩⟩
theorem Hit.mem {k : Nat} {l : List Nat} {i j κ p c : Nat} (hk : k ≤ 4) (hκ : κ < k) (h : Hit k l i j κ p c) : c ∈ kSet k := by
  obtain ⟨m1, m2⟩ := br_mem hk hκ
  rcases h.2 with ⟨_, rfl⟩ | ⟨_, rfl⟩
  · exact m1
  · exact m2
/-- a dict for each place: its brackets, by S -/
def CSt (as : List Addr) (H : Hp) (S : Nat → Nat → Prop) : Prop := ∀ (p : Nat) a, as[p]? = some a → ∃ kvs, H a = some (.dK kvs) ∧ KG kS kvs (S p) ∧ ∀ c v, valV kvs (kS c) = some v → ∃ z : Int, v = .int z
theorem kS_inj2 (a b : Nat) (h : kS a = kS b) : a = b := kS_inj h
theorem CSt.congr {as : List Addr} {H : Hp} {S S' : Nat → Nat → Prop} (h : CSt as H S) (e : ∀ p c, S p c ↔ S' p c) : CSt as H S' := fun p a ha => by
  obtain ⟨kvs, h1, h2, h3⟩ := h p a ha
  exact ⟨kvs, h1, h2.congr (e p), h3⟩
theorem CSt.same {as : List Addr} {H H' : Hp} {S : Nat → Nat → Prop} (h : CSt as H S) (s : Same H H') : CSt as H' S := fun p a ha => by
  obtain ⟨kvs, h1, h2, h3⟩ := h p a ha
  exact ⟨kvs, s _ _ h1, h2, h3⟩
theorem CSt.put {as : List Addr} {H : Hp} {S : Nat → Nat → Prop} (h : CSt as H S) (nd : as.Nodup) {q0 : Nat} {a0 : Addr} {kv0 : List (L2.Key × V)} (ha : as[q0]? = some a0) (e : H a0 = some (.dK kv0)) (c0 : Nat) (z : Int) :
    CSt as (upd H a0 (.dK (putK kv0 (kS c0) (.int z)))) (fun p c => S p c ∨ (p = q0 ∧ c = c0)) := fun q a hq => by
  by_cases y : q = q0
  · subst y
    rw [ha] at hq
    obtain rfl := Option.some.inj hq
    obtain ⟨kvs, h1, h2, h3⟩ := h q a0 ha
    rw [e] at h1
    cases h1
    refine ⟨_, upd_same, (h2.put kS_inj2 c0 (.int z)).congr fun c => ?_, fun c v hv => ?_⟩
    · constructor
      · rintro (h | h)
        · exact .inl h
        · exact .inr ⟨rfl, h⟩
      · rintro (h | ⟨_, h⟩)
        · exact .inl h
        · exact .inr h
    · rw [valV_put] at hv
      split at hv
      · exact ⟨z, (Option.some.inj hv).symm⟩
      · exact h3 c v hv
  · obtain ⟨kvs, h1, h2, h3⟩ := h q a hq
    have na : a ≠ a0 := fun x => y (nd_at nd hq (by rw [x]; exact ha))
    refine ⟨kvs, by rw [upd_ne na]; exact h1, h2.congr fun c => ?_, h3⟩
    constructor
    · exact .inl
    · rintro (h | ⟨h, _⟩)
      · exact h
      · exact absurd h y
theorem CSt.len {as : List Addr} {H : Hp} {S : Nat → Nat → Prop} {k : Nat} (h : CSt as H S) (hS : ∀ p c, S p c → c ∈ kSet k) (hk : k ≤ 4) {p : Nat} {a : Addr} (ha : as[p]? = some a) : ∃ kvs, H a = some (.dK kvs) ∧ kvs.length ≤ 8 ∧ KG kS kvs (S p) ∧ ∀ c v, valV kvs (kS c) = some v → ∃ z : Int, v = .int z := by
  obtain ⟨kvs, h1, h2, h3⟩ := h p a ha
  refine ⟨kvs, h1, ?_, h2, h3⟩
  have := h2.len (L := kSet k) fun m hm => hS p m hm
  rw [kSet_len hk] at this
  omega
/-- at the address b stands the pair (i, j) -/
def PrAt (H : Hp) (b : Addr) (i j : Nat) : Prop := H b = some (.tup [nI i, nI j])
theorem PrAt.inj {H : Hp} {b : Addr} {i j i' j' : Nat} (h : PrAt H b i j) (h' : PrAt H b i' j') : i = i' ∧ j = j' := by
  unfold PrAt at h h'
  rw [h] at h'
  have h1 := HO.tup.inj (Option.some.inj h')
  exact ⟨nI_inj (List.cons.inj h1).1, nI_inj (List.cons.inj (List.cons.inj h1).2).1⟩
/-- what the pairs at bs tell -/
def SP (H : Hp) (k : Nat) (l : List Nat) (bs : List Addr) (p c : Nat) : Prop := ∃ b ∈ bs, ∃ i j κ, PrAt H b i j ∧ κ < k ∧ Hit k l i j κ p c
theorem isKeys_has {H : Hp} {kvs : List (List L2.Key × V)} {bs : List Addr} (h : IsKeys H kvs bs) : ∀ kv ∈ kvs, ∃ b ∈ bs, H b = some (.tup (kv.1.map kV)) := by
  unfold IsKeys at h
  induction h with
  | nil => exact fun b hb => (by cases hb)
  | @cons p b r t h1 h2 ih =>
    intro c hc
    rcases List.mem_cons.mp hc with e | e
    · rw [e]
      exact ⟨b, List.mem_cons_self, h1⟩
    · obtain ⟨kv, m, e2⟩ := ih c e
      exact ⟨kv, List.mem_cons_of_mem _ m, e2⟩
section
variable {P : Program} {w : World} {K : PySem.W.Frag} {mg : Str → Option Value} {base : Heap} {f : Addr} {fd : FuncData}
def spCBP : Sp := fun vs H Q _ => ∃ (k : Nat) (l : List Nat), vs = [.int k, .str (Tx l)] ∧ k ≤ 4 ∧ l.length ≤ 40 ∧ l.length % 2 = 0 ∧ ∀ H' D as, Same H H' → H D = none → H' D = some (.lst (as.map V.ref)) → as.length = l.length → CSt as H' (fun p c => SSb k l p c = true) → Q (.ref D) H'
theorem sc_counts_by_place : FnScope ["k", "row", "costs", "ways", "found", "pair", "kind", "one", "other", "many", "sign"] ["k", "row"] (defScope s_counts_by_place) := ⟨rfl, rfl, rfl, by decide +kernel, rfl, by decide +kernel, by decide +kernel⟩
theorem ok_counts_by_place (T : Txt K mg) (F : FunP K "counts_by_place" "counts_by_place" s_counts_by_place f fd) (g_costs_of : Dk P w K mg base CX0 2 "costs_of" ["k", "row"] spCostsOf)
    (g_partner_ways : Dk P w K mg base CX0 3 "partner_ways" ["k", "row"] spPartW) : FnOk P w K mg base CX0 4 f fd ["k", "row"] spCBP := by
  refine F.ok sc_counts_by_place (fun vs H Q E h => ?_) (fun cdv A outer s H vs Q E hr h => ?_)
  · obtain ⟨k, l, rfl, _⟩ := h
    rfl
  · obtain ⟨k, l, rfl, hk, hl, hev, q⟩ := h
    have hu := hu_of hr
    refine ⟨_, PSs.nox (pss_cons (ps_set (i := 2) sc_counts_by_place.nd rfl (.inl rfl) (g_costs_of.call hr pass0 (pa_cons (pv 0) (pa_cons (pv 1) pa_nil))))
       (pss_cons (ps_set (i := 3) sc_counts_by_place.nd rfl (.inl rfl) (g_partner_ways.call hr pass0 (pa_cons (pv 0) (pa_cons (pv 1) pa_nil))))
       (pss_cons (ps_setLc (i := 4) (own := [("sign", 10)]) (g := (gName 10)) (tt := _) (by rfl) sc_counts_by_place.nd rfl rfl (sw_true rfl rfl rfl (by decide +kernel)) (pi_str (pv 1)) (blkOk_by (own := [("sign", 10)]) (N := ["k", "row", "costs", "ways", "found", "pair", "kind", "one", "other", "many", "sign"]) (sc := defScope s_counts_by_place) (by decide +kernel)) (fun _ _ _ _ _ => (pg_name (i := 10) sc_counts_by_place.nd rfl (.inl rfl))) (fun _ _ _ _ _ => pts_nil) (fun _ _ _ _ _ => pe_dnewK))
       (pss_cons (ps_for PassesOwn.never rfl (pi_list (pe_callB (cr_sortedDT rfl) (by rfl) T.b_sorted (by decide +kernel) (pa_cons (pv 3) pa_nil))) (pg_name (i := 5) sc_counts_by_place.nd rfl (.inl rfl))
        (pss_one (ps_for PassesOwn.never rfl (pi_range1 rfl T.b_range (pa_cons (pv 0) pa_nil)) (pg_name (i := 6) sc_counts_by_place.nd rfl (.inl rfl))
        (pss_cons (ps_par (i := 7) (j := 8) rfl sc_counts_by_place.nd rfl rfl (by decide) rfl rfl (pa_cons (pe_ix ix_str (pe_gS T.c_BRACKETS) (pe_op op_mulW pe_int (pv 6)) (fun _ _ => rfl)) (pa_cons (pe_ix ix_str (pe_gS T.c_BRACKETS) (pe_op op_add (pe_op op_mulW pe_int (pv 6)) pe_int) (fun _ _ => rfl)) pa_nil)) (by rfl))
       (pss_cons (ps_set (i := 9) sc_counts_by_place.nd rfl (.inl rfl) (pe_op op_mulW (pe_op op_mulW (pe_dget hu (pv 3) (pv 5) (fun _ _ => rfl)) (pe_dget hu (pe_ix (show IxR _ (rIxL K) from ix_list) (pv 2) (pe_ix ix_tup (pv 5) pe_int (fun _ _ => rfl)) (fun _ _ => rfl)) (pv 7) (fun _ _ => rfl))) (pe_dget hu (pe_ix (show IxR _ (rIxL K) from ix_list) (pv 2) (pe_ix ix_tup (pv 5) pe_int (fun _ _ => rfl)) (fun _ _ => rfl)) (pv 8) (fun _ _ => rfl))))
       (pss_one (ps_if (pt_cmpR op_gt (pv 9) pe_int (nomark _))
        (pss_cons (ps_dput hu (pe_ix (show IxR _ (rIxL K) from ix_list) (pv 4) (pe_ix ix_tup (pv 5) pe_int (fun _ _ => rfl)) (fun _ _ => rfl)) (pv 7) (pe_op op_add (pe_dget2 hu (pe_ix (show IxR _ (rIxL K) from ix_list) (pv 4) (pe_ix ix_tup (pv 5) pe_int (fun _ _ => rfl)) (fun _ _ => rfl)) (pv 7) pe_int ⟨rfl, rfl, rfl, rfl⟩) (pv 9)) rfl)
       (pss_one (ps_dput hu (pe_ix (show IxR _ (rIxL K) from ix_list) (pv 4) (pe_ix ix_tup (pv 5) pe_int (fun _ _ => rfl)) (fun _ _ => rfl)) (pv 8) (pe_op op_add (pe_dget2 hu (pe_ix (show IxR _ (rIxL K) from ix_list) (pv 4) (pe_ix ix_tup (pv 5) pe_int (fun _ _ => rfl)) (fun _ _ => rfl)) (pv 8) pe_int ⟨rfl, rfl, rfl, rfl⟩) (pv 9)) rfl)))
        pss_nil)))))))
       (pss_one (ps_ret (pv 4))))))) , ?_⟩
    have hz : (Tx l).cps.size = l.length := by simp [Tx]
    refine ⟨_, rfl, _, rfl, k, l, rfl, hk, hl, fun H1 C as0 s1 hC eC hA => ?_⟩
    refine ⟨_, rfl, _, rfl, k, l, rfl, hk, hl, hev, fun H2 Wd' kvW s2 hW eW tW => ?_⟩
    have eC2 := s2 _ _ eC
    have hA2 := hA.same s2
    have s12 : Same H H2 := s1.trans s2
    -- found = [{} for sign in row]
    refine ⟨_, rfl, _, rfl, fun D hD => ?_⟩
    refine lc_it walk_str (fun m H' => Same H2 H' ∧ ∃ as : List Addr, H' D = some (.lst (as.map V.ref)) ∧ as.length = m ∧ as.Nodup ∧ (∀ a ∈ as, H2 a = none) ∧ ∀ (t : Nat) a, as[t]? = some a → H' a = some (.dK []))
      ⟨same_upd hD, [], upd_same, rfl, List.nodup_nil, fun a h => (by cases h), fun t a h => by simp at h⟩ (fun _ _ _ _ => trivial) (fun m x H5 H6 hm hP hY => ?_) (fun H3 hP => ?_)
    · obtain ⟨s5, as, eD, la, nd, hn5, ha⟩ := hP
      obtain ⟨rfl, c, hc, rfl⟩ := hY
      rw [hz] at hm
      refine ⟨rfl, fun T hT => ⟨as.map V.ref, same_upd hT _ _ eD, by rw [List.length_map]; exact sl_lt (by omega), ?_⟩⟩
      have nTD : D ≠ T := ne_of_none eD hT
      refine ⟨fun c o e => ?_, as ++ [T], ?_, by rw [List.length_append, la]; rfl, ?_, fun a h => ?_, fun t a h => ?_⟩
      · rw [upd_ne (ne_of_none e hD)]
        exact same_upd hT _ _ (s5 _ _ e)
      · rw [upd_same, List.map_append]
        rfl
      · rw [List.nodup_append]
        refine ⟨nd, by simp, fun a h1 b h2 z => ?_⟩
        rw [List.mem_singleton] at h2
        obtain ⟨t, ht⟩ := List.getElem?_of_mem h1
        exact ne_of_none (ha t a ht) hT (z.trans h2)
      · rcases List.mem_append.mp h with h | h
        · exact hn5 a h
        · rw [List.mem_singleton] at h
          subst h
          exact s5.free hT
      · by_cases z : t < m
        · have h2 : as[t]? = some a := by
            rw [List.getElem?_append_left (by omega)] at h
            exact h
          have h3 := ha t a h2
          have naD : a ≠ D := ne_of h3 eD (by intro z; cases z)
          rw [upd_ne naD]
          exact same_upd hT _ _ h3
        · have ht : t = m := by
            have := (List.getElem?_eq_some_iff.mp h).1
            rw [List.length_append, la] at this
            simp at this
            omega
          subst ht
          rw [List.getElem?_append_right (by omega), la, Nat.sub_self] at h
          have : T = a := Option.some.inj h
          subst this
          rw [upd_ne nTD.symm, upd_same]
    · obtain ⟨s3, as, eD, la, nd, hnA, ha⟩ := hP
      rw [hz] at la
      have C0 : CSt as H3 (fun _ _ => False) := fun p a h => ⟨[], ha p a h, KG.nil, fun c v hv => by cases hv⟩
      have hD2 : H2 D = none := hD
      -- for pair in sorted(ways)
      obtain ⟨ms, hkeys, hnd, hmem⟩ := tW.1
      have hpairs : Pairs kvW := fun kv hkv => by
        have h1 : kv.1 ∈ kvW.map (·.1) := List.mem_map_of_mem hkv
        rw [hkeys] at h1
        obtain ⟨p, _, e⟩ := List.mem_map.mp h1
        exact ⟨p.1, p.2, e.symm⟩
      refine ⟨_, rfl, Wd', kvW, rfl, .inl (s3 _ _ eW), hpairs, fun L bs ys hL hbs hys => ⟨L, rfl, ⟨_, .inl (.inl upd_same)⟩, ?_⟩⟩
      obtain ⟨H4, hH4⟩ : ∃ H4, H4 = upd H3 L (.lst (ys.map V.ref)) := ⟨_, rfl⟩
      have s4 : Same H3 H4 := by rw [hH4]; exact same_upd hL
      have eL4 : H4 L = some (.lst (ys.map V.ref)) := by rw [hH4]; exact upd_same
      rw [← hH4]
      have pr_of : ∀ b ∈ ys, ∃ i j, PrAt H3 b i j ∧ Pr l.length i j := fun b hb => by
        obtain ⟨kv, hkv, e⟩ := isKeys_mem hbs b (hys.mem_iff.mp hb)
        have h1 : kv.1 ∈ kvW.map (·.1) := List.mem_map_of_mem hkv
        rw [hkeys] at h1
        obtain ⟨p, hp, e2⟩ := List.mem_map.mp h1
        rw [← e2] at e
        exact ⟨p.1, p.2, e, (hmem p).mp hp⟩
      have pr_all : ∀ i j, Pr l.length i j → ∃ b ∈ ys, PrAt H3 b i j := fun i j h => by
        have h1 : kP (i, j) ∈ kvW.map (·.1) := by
          rw [hkeys]
          exact List.mem_map_of_mem ((hmem (i, j)).mpr h)
        obtain ⟨kv, hkv, e⟩ := List.mem_map.mp h1
        obtain ⟨b, hb, e2⟩ := isKeys_has hbs kv hkv
        rw [e] at e2
        exact ⟨b, hys.mem_iff.mpr hb, e2⟩
      have hCa : ∀ b o, H2 b = some o → b ∉ as := fun b o e h => by
        rw [hnA b h] at e
        cases e
      have hDa : D ∉ as := fun h => by
        obtain ⟨t, ht⟩ := List.getElem?_of_mem h
        have := ha t D ht
        rw [eD] at this
        cases this
      have hLa : L ∉ as := fun h => by
        obtain ⟨t, ht⟩ := List.getElem?_of_mem h
        have := ha t L ht
        rw [hL] at this
        cases this
      have hBa : ∀ b i j, PrAt H3 b i j → b ∉ as := fun b i j e h => by
        obtain ⟨t, ht⟩ := List.getElem?_of_mem h
        have h1 := ha t b ht
        unfold PrAt at e
        rw [h1] at e
        cases e
      have s24 := s3.trans s4
      refine for_it (walk_list (K := K) (a := L) (xs := ys.map V.ref)) (fun t σ H' => ∃ (y5 y6 y7 y8 y9 y10 : Option V), σ = [some (.int k), some (.str (Tx l)), some (.ref C), some (.ref Wd'), some (.ref D), y5, y6, y7, y8, y9, y10] ∧ SameA as H4 H' ∧ CSt as H' (SP H3 k l (ys.take t)))
        ⟨none, none, none, none, none, none, rfl, SameA.refl _ _, (C0.same s4).congr fun p c => ?_⟩ (fun t σ H' _ hP => ?_) (fun t x σ H5 H6 ht hP hY => ?_) (fun σ H5 hP => ?_)
      · constructor
        · exact False.elim
        · rintro ⟨b, hb, _⟩
          cases hb
      · obtain ⟨_, _, _, _, _, _, _, s5, _⟩ := hP
        exact .inl (.inl (s5 _ _ hLa eL4))
      · obtain ⟨y5, y6, y7, y8, y9, y10, rfl, s5, c5⟩ := hP
        obtain ⟨rfl, hx⟩ := hY
        rw [List.getElem?_map] at hx
        rw [List.length_map] at ht
        obtain ⟨b, hb⟩ : ∃ b, ys[t]? = some b := ⟨ys[t], by simp [ht]⟩
        rw [hb] at hx
        obtain rfl : V.ref b = x := Option.some.inj hx
        obtain ⟨i, j, hij, h1, h2, h3⟩ := pr_of b (List.mem_of_getElem? hb)
        have hbA : b ∉ as := hBa b i j hij
        have eb6 : ∀ {H' : Hp}, SameA as H6 H' → H' b = some (.tup [nI i, nI j]) := fun s => s _ _ hbA (s5 _ _ hbA (s4 _ _ hij))
        -- for kind in range(k)
        refine ⟨_, rfl, _, rfl, by omega, by omega, ?_⟩
        rw [show (k : Int).toNat = k by omega]
        refine for_it walk_range (fun κ σ H' => ∃ (y6 y7 y8 y9 y10 : Option V), σ = [some (.int k), some (.str (Tx l)), some (.ref C), some (.ref Wd'), some (.ref D), some (.ref b), y6, y7, y8, y9, y10] ∧ SameA as H6 H' ∧ CSt as H' (fun p c => SP H3 k l (ys.take t) p c ∨ ∃ κ', κ' < κ ∧ Hit k l i j κ' p c))
          ⟨_, _, _, _, _, rfl, SameA.refl _ _, c5.congr fun p c => ?_⟩ (fun _ _ _ _ _ => trivial) (fun κ x σ H7 H8 hκ hP hY => ?_) (fun σ H7 hP => ?_)
        · constructor
          · exact .inl
          · rintro (h | ⟨κ', h, _⟩)
            · exact h
            · omega
        · obtain ⟨y6, y7, y8, y9, y10, rfl, s7, c7⟩ := hP
          obtain ⟨rfl, hx⟩ := hY
          have hx' : x = nI κ := hx.trans (congrArg V.int (Int.zero_add _))
          subst hx'
          clear hx
          have hκ4 : κ < 2 ^ 10 := by omega
          have eC8 : H8 C = some (.lst (as0.map V.ref)) := s7 _ _ (hCa _ _ eC2) (s5 _ _ (hCa _ _ eC2) (s24 _ _ eC2))
          have eW8 : H8 Wd' = some (.dT kvW) := s7 _ _ (hCa _ _ eW) (s5 _ _ (hCa _ _ eW) (s24 _ _ eW))
          have eD8 : H8 D = some (.lst (as.map V.ref)) := s7 _ _ hDa (s5 _ _ hDa (s4 _ _ eD))
          have eb8 := eb6 s7
          obtain ⟨a1, v1, _, g1, eq1, w1⟩ := hA2.get (i := i) (by omega)
          obtain ⟨a2, v2, _, g2, eq2, w2⟩ := hA2.get (i := j) h2
          have eq1 : H8 a1 = some (.dK v1) := s7 _ _ (hCa _ _ eq1) (s5 _ _ (hCa _ _ eq1) (s24 _ _ eq1))
          have eq2 : H8 a2 = some (.dK v2) := s7 _ _ (hCa _ _ eq2) (s5 _ _ (hCa _ _ eq2) (s24 _ _ eq2))
          obtain ⟨m1, m2⟩ := br_mem hk hκ
          have x1 := aw_lt hk hl j (show i ≤ 40 by omega)
          have x2 := Wd_le hk hl (i + 1) j
          have x3 : pW k l i j < 2 ^ (bigE + 100) := mul_lt x1 x2
          have l1 := lN_lt (l.getD i 0) (br (2 * κ))
          have l2 := lN_lt (l.getD j 0) (br (2 * κ + 1))
          -- one, other
          refine ⟨_, rfl, _, _, rfl, rfl, wide_of (a := 2) (m := 10) (n := 10) (by decide) hκ4 (by decide) (by decide) (by decide), _, _, _, rfl, rfl, by decide, at_txI (j := 2 * κ) (by omega) (br_at (by omega)), _, rfl, _, _, rfl, rfl, wide_of (a := 2) (m := 10) (n := 10) (by decide) hκ4 (by decide) (by decide) (by decide), _, _, rfl, rfl, _, _, _, rfl, rfl, by decide, at_txI (j := 2 * κ + 1) (by omega) (br_at (by omega)), _, _, rfl, ?_⟩
          -- many
          refine ⟨_, rfl, _, rfl, Wd', _, rfl, dget_t (k := ky i j) eW8 eb8 (tW.2 i j ⟨h1, h2, h3⟩), ?_⟩
          refine ⟨_, rfl, _, rfl, b, _, _, _, rfl, rfl, SqT.of eb8, atI_nat (j := 0) rfl, C, _, _, _, rfl, rfl, .inl (.inl eC8), atI_nat (j := i) g1, _, rfl, a1, _, rfl, dget_k (k := kS (br (2 * κ))) eq1 (w1 _ m1), ?_⟩
          refine ⟨_, _, rfl, rfl, wide_of x3 l1 (by decide) (by decide) (by decide), ?_⟩
          refine ⟨_, rfl, _, rfl, b, _, _, _, rfl, rfl, SqT.of eb8, atI_nat (j := 1) rfl, C, _, _, _, rfl, rfl, .inl (.inl eC8), atI_nat (j := j) g2, _, rfl, a2, _, rfl, dget_k (k := kS (br (2 * κ + 1))) eq2 (w2 _ m2), ?_⟩
          refine ⟨_, _, rfl, rfl, wide_of (a := pW k l i j * lN (l.getD i 0) (br (2 * κ))) (mul_lt x3 l1) l2 (by decide) (by decide) (by decide), ?_⟩
          -- if many > 0
          refine ⟨_, rfl, _, _, rfl, rfl, _, rfl, ?_⟩
          have eM : decide ((0 : Int) < ((pW k l i j : Nat) : Int) * ((lN (l.getD i 0) (br (2 * κ)) : Nat) : Int) * ((lN (l.getD j 0) (br (2 * κ + 1)) : Nat) : Int)) = decide (0 < mv k l i j κ) := by
            refine decide_eq_decide.mpr ?_
            unfold mv
            rw [← Int.natCast_mul, ← Int.natCast_mul]
            omega
          have hcond : (0 < mv k l i j κ ∨ ¬ 0 < mv k l i j κ) := Decidable.em _
          refine iteB (fun c1 => ?_) (fun c1 => ?_)
          · have hpos : 0 < mv k l i j κ := of_decide_eq_true (eM ▸ c1)
            have inS : ∀ p c, (SP H3 k l (ys.take t) p c ∨ ∃ κ', κ' < κ ∧ Hit k l i j κ' p c) → c ∈ kSet k := fun p c h => by
              rcases h with ⟨_, _, i', j', κ', _, hk', hh⟩ | ⟨κ', hk', hh⟩
              · exact hh.mem hk hk'
              · exact hh.mem hk (by omega)
            obtain ⟨A1, fa1⟩ : ∃ a, as[i]? = some a := ⟨as[i]'(by omega), by simp [show i < as.length by omega]⟩
            obtain ⟨A2, fa2⟩ : ∃ a, as[j]? = some a := ⟨as[j]'(by omega), by simp [show j < as.length by omega]⟩
            have fv1 : (as.map V.ref)[i]? = some (V.ref A1) := by rw [List.getElem?_map, fa1]; rfl
            have fv2 : (as.map V.ref)[j]? = some (V.ref A2) := by rw [List.getElem?_map, fa2]; rfl
            obtain ⟨kv1, eA1, len1, kg1, int1⟩ := c7.len inS hk fa1
            have hz1 : ∃ z1 : Int, (valV kv1 (kS (br (2 * κ)))).getD (.int 0) = .int z1 := by
              cases e : valV kv1 (kS (br (2 * κ))) with
              | none => exact ⟨0, rfl⟩
              | some v =>
                obtain ⟨z, rfl⟩ := int1 _ v e
                exact ⟨z, rfl⟩
            obtain ⟨z1, hz1⟩ := hz1
            refine ⟨_, rfl, _, rfl, b, _, _, _, rfl, rfl, SqT.of eb8, atI_nat (j := 0) rfl, D, _, _, _, rfl, rfl, .inl (.inl eD8), atI_nat (j := i) fv1, A1, rfl, .inl ⟨_, .inl eA1⟩, _, rfl, _, DGet.k (k := kS (br (2 * κ))) eA1, ?_⟩
            refine ⟨_, rfl, z1, _, hz1, rfl, _, rfl, _, rfl, b, _, _, _, rfl, rfl, SqT.of eb8, atI_nat (j := 0) rfl, D, _, _, _, rfl, rfl, .inl (.inl eD8), atI_nat (j := i) fv1, _, rfl, A1, _, rfl, DPut.k (k := kS (br (2 * κ))) eA1 (sl_lt (by omega)), ?_⟩
            have mA1 := List.mem_of_getElem? fa1
            have mA2 := List.mem_of_getElem? fa2
            obtain ⟨M, hM⟩ : ∃ M : Int, M = ((pW k l i j : Nat) : Int) * ((lN (l.getD i 0) (br (2 * κ)) : Nat) : Int) * ((lN (l.getD j 0) (br (2 * κ + 1)) : Nat) : Int) := ⟨_, rfl⟩
            have c9 := c7.put nd fa1 eA1 (br (2 * κ)) (z1 + M)
            have s9 := s7.up (o := .dK (putK kv1 (kS (br (2 * κ))) (.int (z1 + M)))) mA1
            have nD1 : D ≠ A1 := fun z => hDa (z ▸ mA1)
            have eD9 : (upd H8 A1 (.dK (putK kv1 (kS (br (2 * κ))) (.int (z1 + M))))) D = some (.lst (as.map V.ref)) := (upd_ne nD1).trans eD8
            have eb9 := eb6 s9
            rw [← hM]
            generalize upd H8 A1 (.dK (putK kv1 (kS (br (2 * κ))) (.int (z1 + M)))) = H9 at c9 s9 eD9 eb9 ⊢
            have inS2 : ∀ p c, ((SP H3 k l (ys.take t) p c ∨ ∃ κ', κ' < κ ∧ Hit k l i j κ' p c) ∨ (p = i ∧ c = br (2 * κ))) → c ∈ kSet k := fun p c h => by
              rcases h with h | ⟨_, rfl⟩
              · exact inS p c h
              · exact m1
            obtain ⟨kv2, eA2, len2, kg2, int2⟩ := c9.len inS2 hk fa2
            have hz2 : ∃ z2 : Int, (valV kv2 (kS (br (2 * κ + 1)))).getD (.int 0) = .int z2 := by
              cases e : valV kv2 (kS (br (2 * κ + 1))) with
              | none => exact ⟨0, rfl⟩
              | some v =>
                obtain ⟨z, rfl⟩ := int2 _ v e
                exact ⟨z, rfl⟩
            obtain ⟨z2, hz2⟩ := hz2
            refine ⟨_, rfl, _, rfl, b, _, _, _, rfl, rfl, SqT.of eb9, atI_nat (j := 1) rfl, D, _, _, _, rfl, rfl, .inl (.inl eD9), atI_nat (j := j) fv2, A2, rfl, .inl ⟨_, .inl eA2⟩, _, rfl, _, DGet.k (k := kS (br (2 * κ + 1))) eA2, ?_⟩
            refine ⟨_, rfl, z2, _, hz2, rfl, _, rfl, _, rfl, b, _, _, _, rfl, rfl, SqT.of eb9, atI_nat (j := 1) rfl, D, _, _, _, rfl, rfl, .inl (.inl eD9), atI_nat (j := j) fv2, _, rfl, A2, _, rfl, DPut.k (k := kS (br (2 * κ + 1))) eA2 (sl_lt (by omega)), ?_⟩
            subst hM
            refine ⟨_, _, _, _, _, rfl, s9.up mA2, (c9.put nd fa2 eA2 (br (2 * κ + 1)) (z2 + ((pW k l i j : Nat) : Int) * ((lN (l.getD i 0) (br (2 * κ)) : Nat) : Int) * ((lN (l.getD j 0) (br (2 * κ + 1)) : Nat) : Int))).congr fun p c => ?_⟩
            constructor
            · rintro (((h | ⟨κ', h, hh⟩) | ⟨rfl, rfl⟩) | ⟨rfl, rfl⟩)
              · exact .inl h
              · exact .inr ⟨κ', by omega, hh⟩
              · exact .inr ⟨κ, by omega, hpos, .inl ⟨rfl, rfl⟩⟩
              · exact .inr ⟨κ, by omega, hpos, .inr ⟨rfl, rfl⟩⟩
            · rintro (h | ⟨κ', h, hh⟩)
              · exact .inl (.inl (.inl h))
              · by_cases e : κ' = κ
                · subst e
                  rcases hh.2 with e2 | e2
                  · exact .inl (.inr e2)
                  · exact .inr e2
                · exact .inl (.inl (.inr ⟨κ', by omega, hh⟩))
          · have hneg : ¬ 0 < mv k l i j κ := of_decide_eq_false (eM ▸ c1)
            refine ⟨_, _, _, _, _, rfl, s7, c7.congr fun p c => ?_⟩
            constructor
            · rintro (h | ⟨κ', h, hh⟩)
              · exact .inl h
              · exact .inr ⟨κ', by omega, hh⟩
            · rintro (h | ⟨κ', h, hh⟩)
              · exact .inl h
              · by_cases e : κ' = κ
                · subst e
                  exact absurd hh.1 hneg
                · exact .inr ⟨κ', by omega, hh⟩
        · obtain ⟨y6, y7, y8, y9, y10, rfl, s7, c7⟩ := hP
          refine ⟨_, _, _, _, _, _, rfl, s5.trans s7, c7.congr fun p c => ?_⟩
          unfold SP
          rw [List.take_add_one, hb]
          constructor
          · rintro (⟨b', hb', i', j', κ', e', hk', hh⟩ | ⟨κ', hk', hh⟩)
            · exact ⟨b', List.mem_append_left _ hb', i', j', κ', e', hk', hh⟩
            · exact ⟨b, List.mem_append_right _ (by simp), i, j, κ', hij, hk', hh⟩
          · rintro ⟨b', hb', i', j', κ', e', hk', hh⟩
            rcases List.mem_append.mp hb' with m | m
            · exact .inl ⟨b', m, i', j', κ', e', hk', hh⟩
            · have eb : b' = b := by simpa using m
              subst eb
              obtain ⟨rfl, rfl⟩ := hij.inj e'
              exact .inr ⟨κ', hk', hh⟩
      · obtain ⟨y5, y6, y7, y8, y9, y10, rfl, s5, c5⟩ := hP
        rw [List.length_map, List.take_length] at c5
        refine ⟨_, rfl, q _ D as (fun b o e => ?_) (s12.free hD2) (s5 _ _ hDa (s4 _ _ eD)) la (c5.congr fun p c => ?_)⟩
        · have e2 := s12 _ _ e
          exact s5 _ _ (hCa _ _ e2) (s24 _ _ e2)
        · rw [SSb_iff]
          constructor
          · rintro ⟨b, hb, i, j, κ, e, hk', hh⟩
            obtain ⟨i', j', e', pr⟩ := pr_of b hb
            obtain ⟨rfl, rfl⟩ := e'.inj e
            exact ⟨i', j', κ, pr, hk', hh⟩
          · rintro ⟨i, j, κ, pr, hk', hh⟩
            obtain ⟨b, hb, e⟩ := pr_all i j pr
            exact ⟨b, hb, i, j, κ, e, hk', hh⟩
end
end BR
set_option Elab.async false
set_option linter.all false
set_option maxRecDepth 100000
set_option maxHeartbeats 4000000
/-! D17: sure.py: sure_places -/
namespace BR
open PySem PySem.Spec PyProof.Rows L2
/-- what is sure at the place p -/
def sureAt (k : Nat) (l : List Nat) (p : Nat) : List (Nat × Nat) := if l.getD p 0 = 63 ∧ ((kSet k).filter (SSb k l p)).length = 1 then ((kSet k).filter (SSb k l p)).map fun c => (p, c) else []
def sureL (k : Nat) (l : List Nat) : List (Nat × Nat) := (List.range l.length).flatMap (sureAt k l)
/-- two lists, side by side -/
def ZR {α : Type} (R : α → Addr → Prop) : List α → List Addr → Prop
  | [], [] => True
  | c :: cs, T :: Ts => R c T ∧ ZR R cs Ts
  | _, _ => False
section
variable {α : Type} {R R' : α → Addr → Prop}
theorem ZR.imp (h : ∀ c T, R c T → R' c T) : ∀ {cs : List α} {Ts : List Addr}, ZR R cs Ts → ZR R' cs Ts
  | [], [], _ => trivial
  | c :: cs, T :: Ts, z => ⟨h c T z.1, ZR.imp h z.2⟩
  | [], _ :: _, z => z.elim
  | _ :: _, [], z => z.elim
theorem ZR.app : ∀ {cs : List α} {Ts : List Addr} {ds : List α} {Us : List Addr}, ZR R cs Ts → ZR R ds Us → ZR R (cs ++ ds) (Ts ++ Us)
  | [], [], _, _, _, h => h
  | c :: cs, T :: Ts, _, _, z, h => ⟨z.1, ZR.app z.2 h⟩
  | [], _ :: _, _, _, z, _ => z.elim
  | _ :: _, [], _, _, z, _ => z.elim
theorem ZR.len : ∀ {cs : List α} {Ts : List Addr}, ZR R cs Ts → cs.length = Ts.length
  | [], [], _ => rfl
  | c :: cs, T :: Ts, z => by
    rw [List.length_cons, List.length_cons, ZR.len z.2]
  | [], _ :: _, z => z.elim
  | _ :: _, [], z => z.elim
theorem ZR.get : ∀ {cs : List α} {Ts : List Addr} {i : Nat} {T : Addr}, ZR R cs Ts → Ts[i]? = some T → ∃ c, cs[i]? = some c ∧ R c T
  | c :: cs, T :: Ts, 0, T', z, e => by
    cases e
    exact ⟨c, rfl, z.1⟩
  | c :: cs, T :: Ts, i + 1, T', z, e => ZR.get (cs := cs) (Ts := Ts) (i := i) z.2 e
  | [], [], i, T', z, e => by simp at e
  | [], _ :: _, _, _, z, _ => z.elim
  | _ :: _, [], _, _, z, _ => z.elim
end
def SrT (H : Hp) (x : Nat × Nat) (T : Addr) : Prop := H T = some (.tup [nI x.1, .str (Tx [x.2])])
theorem sureAt_len (k : Nat) (l : List Nat) (p : Nat) : (sureAt k l p).length ≤ 1 := by
  unfold sureAt
  split
  · rename_i h
    rw [List.length_map, h.2]
    exact Nat.le_refl _
  · exact Nat.zero_le _
theorem sureTo_len (k : Nat) (l : List Nat) : ∀ p, ((List.range p).flatMap (sureAt k l)).length ≤ p
  | 0 => Nat.le_refl _
  | p + 1 => by
    rw [List.range_succ, List.flatMap_append, List.length_append]
    have h1 := sureTo_len k l p
    have h2 := sureAt_len k l p
    have h3 : ([p].flatMap (sureAt k l)) = sureAt k l p := by simp
    rw [h3]
    omega
/-- one key alone: it is the one of S -/
theorem KG.one {k : Nat} {kvs : List (L2.Key × V)} {S : Nat → Bool} (hk : k ≤ 4) (h : KG kS kvs (fun c => S c = true)) (hS : ∀ c, S c = true → c ∈ kSet k) : kvs.length = ((kSet k).filter S).length ∧ (kvs.length = 1 → ∃ c v, kvs = [(kS c, v)] ∧ (kSet k).filter S = [c]) := by
  obtain ⟨ms, h1, h2, h3⟩ := h
  have hl : kvs.length = ms.length := by
    have := congrArg List.length h1
    simpa using this
  have nd2 : ((kSet k).filter S).Nodup := (kSet_nd hk).filter _
  have e1 : ∀ c, c ∈ ms ↔ c ∈ (kSet k).filter S := fun c => by
    rw [h3, List.mem_filter]
    exact ⟨fun z => ⟨hS c z, z⟩, fun z => z.2⟩
  have hl2 : ms.length = ((kSet k).filter S).length :=
    Nat.le_antisymm (List.Nodup.length_le_of_subset h2 fun c hc => (e1 c).mp hc) (List.Nodup.length_le_of_subset nd2 fun c hc => (e1 c).mpr hc)
  refine ⟨by omega, fun h => ?_⟩
  obtain ⟨c, hc⟩ := List.length_eq_one_iff.mp (show ms.length = 1 by omega)
  obtain ⟨d, hd⟩ := List.length_eq_one_iff.mp (show ((kSet k).filter S).length = 1 by omega)
  obtain ⟨kv, hkv⟩ := List.length_eq_one_iff.mp h
  have ecd : c = d := by
    have : c ∈ (kSet k).filter S := (e1 c).mp (by rw [hc]; exact List.mem_singleton.mpr rfl)
    rw [hd] at this
    exact List.mem_singleton.mp this
  rw [hkv, hc] at h1
  have e2 : kv.1 = kS c := (List.cons.inj h1).1
  exact ⟨c, kv.2, by rw [hkv, ← e2], by rw [hd, ecd]⟩
section
variable {P : Program} {w : World} {K : PySem.W.Frag} {mg : Str → Option Value} {base : Heap} {f : Addr} {fd : FuncData}
def spSure (C : Addr) : Sp := fun vs H Q E => ∃ (k : Nat) (l : List Nat), vs = [.int k, .str (Tx l)] ∧ 1 ≤ k ∧ k ≤ 4 ∧ rowBy k l = true ∧
  (0 < Wn k l → ∀ H' D Ts, Same H H' → H D = none → H' D = some (.lst (Ts.map V.ref)) → ZR (SrT H') (sureL k l) Ts → Q (.ref D) H') ∧ (¬ 0 < Wn k l → ∀ H', Same H H' → E (.ref C) none H')
theorem sc_sure_places : FnScope ["k", "row", "found", "i", "counts", "bracket"] ["k", "row"] (defScope s_sure_places) := ⟨rfl, rfl, rfl, by decide +kernel, rfl, by decide +kernel, by decide +kernel⟩
theorem ok_sure_places (T : Txt K mg) (F : FunP K "sure_places" "sure_places" s_sure_places f fd) (g_need_line : Dk P w K mg base CX0 3 "need_line" ["k", "row"] spNeedLine) (g_need_filling : Dk P w K mg base (L2.CX P w) 3 "need_filling" ["k", "row"] (spNeedFill (cA K "NoFilling")))
    (g_counts_by_place : Dk P w K mg base CX0 4 "counts_by_place" ["k", "row"] spCBP) : FnOk P w K mg base (L2.CX P w) 5 f fd ["k", "row"] (spSure (cA K "NoFilling")) := by
  refine F.ok sc_sure_places (fun vs H Q E h => ?_) (fun cdv A outer s H vs Q E hr h => ?_)
  · obtain ⟨k, l, rfl, _⟩ := h
    rfl
  · obtain ⟨k, l, rfl, h1, hk, hb, q1, q2⟩ := h
    have hu := hu_of hr
    refine ⟨_, (pss_cons (ps_expr (g_need_line.call hr pass0 (pa_cons (pv 0) (pa_cons (pv 1) pa_nil))))
       (pss_cons (ps_expr (g_need_filling.call hr (passes_call (takes_of rfl rfl rfl rfl) (fun _ _ _ _ h => h)) (pa_cons (pv 0) (pa_cons (pv 1) pa_nil))))
       (pss_cons (ps_set (i := 2) sc_sure_places.nd rfl (.inl rfl) (pe_lst pa_nil))
       (pss_cons (ps_for (passes_of rfl) rfl (pi_enum (by rfl) T.b_enumerate (pa_cons (g_counts_by_place.call hr pass0 (pa_cons (pv 0) (pa_cons (pv 1) pa_nil))) pa_nil)) (pg_tup (by rfl) (pgs_cons (pg_name (i := 3) sc_sure_places.nd rfl (.inr rfl)) (pgs_cons (pg_name (i := 4) sc_sure_places.nd rfl (.inl rfl)) pgs_nil)))
        (pss_one (ps_if (PW.pt (pw_and (pt_cmpR op_eq (pe_ix ix_str (pv 1) (pv 3) (fun _ _ => rfl)) pe_str (nomark _)) (pw_and1 (pt_cmpR op_eq (pe_callB call_lenD (by rfl) T.b_len (by decide +kernel) (pa_cons (pv 4) pa_nil)) pe_int (nomark _)))))
        (pss_one (ps_lock (ps_expr (pe_bm PySem.F.plainAttrs_list PySem.F.slot_list_extend PySem.F.type_list_extend mt_extend (pv 2) (pa_cons (pe_lc (own := [("bracket", 5)]) (g := (gName 5)) (tt := _) (by rfl) sc_sure_places.nd (pi_keys (pv 4)) (blkOk_by (own := [("bracket", 5)]) (N := ["k", "row", "found", "i", "counts", "bracket"]) (sc := defScope s_sure_places) (by decide +kernel)) (fun _ _ _ _ _ => (pg_name (i := 5) sc_sure_places.nd rfl (.inl rfl))) (fun _ _ _ _ _ => pts_nil) (fun _ _ _ _ _ => (pe_tup (pa_cons (pv 3) (pa_cons (pv 5) pa_nil))))) pa_nil)))))
        pss_nil)))
       (pss_one (ps_ret (pv 2))))))) , ?_⟩
    have hl := rowBy_len hb
    have hln : (Tx l).length ≤ sizeLine := by rw [Tx_len]; exact sl_le (by omega)
    refine ⟨_, rfl, _, rfl, k, l, rfl, h1, hk, (Sg.of hb).as, hb, fun H1 s1 => ?_⟩
    refine ⟨_, rfl, _, rfl, k, l, rfl, hk, hl, fun hpos H2 s2 => ?_, fun hneg H2 s2 => q2 hneg _ (s1.trans s2)⟩
    have hev : l.length % 2 = 0 := Decidable.byContradiction fun z => by
      have := Wn_odd k l (by omega)
      omega
    refine ⟨Nat.zero_le _, fun F0 hF0 => ?_⟩
    have s12 := s1.trans s2
    have hHF : H F0 = none := s12.free hF0
    refine ⟨_, rfl, _, rfl, k, l, rfl, hk, hl, hev, fun H3 D as s3 hD eD la hC => ⟨D, _, rfl, .inl (.inl eD), ?_⟩⟩
    have eF3 := s3 F0 _ upd_same
    have nDF : D ≠ F0 := fun z => by
      rw [z, upd_same] at hD
      cases hD
    have s13 : Same H H3 := (s12.trans (same_upd hF0)).trans s3
    refine for_it (walk_enum (K := K) (a := D) (xs := as.map V.ref)) (fun p σ H' => ∃ (y3 y4 y5 : Option V) (Ts : List Addr), σ = [some (.int k), some (.str (Tx l)), some (.ref F0), y3, y4, y5] ∧ SameX F0 H3 H' ∧ H' F0 = some (.lst (Ts.map V.ref)) ∧ ZR (SrT H') ((List.range p).flatMap (sureAt k l)) Ts)
      ⟨none, none, none, [], rfl, SameX.refl _ _, eF3, trivial⟩ (fun p σ H' _ hP => ?_) (fun p x σ H4 H5 hp hP hY => ?_) (fun σ H4 hP => ?_)
    · obtain ⟨_, _, _, _, _, s4, _⟩ := hP
      exact .inl (.inl (s4 _ _ nDF eD))
    · obtain ⟨y3, y4, y5, Ts, rfl, s4, eF4, z4⟩ := hP
      rw [List.length_map, la] at hp
      obtain ⟨T', x', y', rfl, hT, rfl, hx, hy⟩ := hY
      obtain rfl : V.int ((p : Nat) : Int) = x' := Option.some.inj hx
      obtain ⟨a, hap⟩ : ∃ a, as[p]? = some a := ⟨as[p]'(by omega), by simp [show p < as.length by omega]⟩
      have hy : (as.map V.ref)[p]? = some y' := hy
      rw [List.getElem?_map, hap] at hy
      obtain rfl : V.ref a = y' := Option.some.inj hy
      refine ⟨T', _, rfl, SqT.of upd_same, rfl, _, _, rfl, _, _, rfl, rfl, ?_⟩
      have s5 := same_upd (o := .tup [V.int (p : Nat), V.ref a]) hT
      obtain ⟨kvs, ea, kg, _⟩ := hC p a hap
      have naF : a ≠ F0 := ne_of ea eF3 (by intro z; cases z)
      have eF5 := s5 _ _ eF4
      have ea5 := s5 _ _ (s4 _ _ naF ea)
      have s45 := s4.trans (sameX s5)
      have z5 := z4.imp (R' := SrT (upd H4 T' (.tup [V.int (p : Nat), V.ref a]))) fun c T h => s5 _ _ h
      generalize upd H4 T' (.tup [V.int (p : Nat), V.ref a]) = H6 at eF5 ea5 s45 z5 ⊢
      obtain ⟨o1, o2⟩ := KG.one hk kg fun c hc => by
        obtain ⟨i, j, κ, _, hκ, hh⟩ := SSb_iff.mp hc
        exact hh.mem hk hκ
      have stay : sureAt k l p = [] → ∃ (x3 x4 x5 : Option V) (Ts' : List Addr), ([some (.int k), some (.str (Tx l)), some (.ref F0), some (nI p), some (.ref a), y5] : L2.St) = [some (.int k), some (.str (Tx l)), some (.ref F0), x3, x4, x5] ∧ SameX F0 H3 H6 ∧ H6 F0 = some (.lst (Ts'.map V.ref)) ∧ ZR (SrT H6) ((List.range (p + 1)).flatMap (sureAt k l)) Ts' := fun e => by
        refine ⟨_, _, y5, Ts, rfl, s45, eF5, ?_⟩
        rw [List.range_succ, List.flatMap_append]
        have h3 : ([p].flatMap (sureAt k l)) = [] := by simp [e]
        rw [h3, List.append_nil]
        exact z5
      -- if row[i] == '?' and len(counts) == 1
      refine ⟨_, rfl, _, rfl, _, _, _, rfl, rfl, hln, at_tx (getD_at hp), rfl, _, rfl, ?_⟩
      have e63 : decide (V.str ⟨#[l.getD p 0]⟩ = V.str (Str.ofString "?")) = decide (l.getD p 0 = 63) := sign_q
      rw [e63]
      refine iteB (fun c1 => ?_) (fun c1 => ?_)
      · refine ⟨_, rfl, a, kvs, rfl, ea5, rfl, _, rfl, ?_⟩
        have eL : decide (V.int ((kvs.length : Nat) : Int) = V.int 1) = decide (kvs.length = 1) := by
          refine decide_eq_decide.mpr ⟨fun z => ?_, fun z => ?_⟩
          · have := V.int.inj z
            omega
          · rw [z]
            rfl
        rw [eL]
        refine iteB (fun c2 => ?_) (fun c2 => ?_)
        · obtain ⟨c, v, hkvs, hfil⟩ := o2 (of_decide_eq_true c2)
          have eS : sureAt k l p = [(p, c)] := by
            unfold sureAt
            rw [if_pos ⟨of_decide_eq_true c1, by rw [hfil]; rfl⟩, hfil]
            rfl
          subst hkvs
          -- found.extend(..)
          refine ⟨a, .dK [(kS c, v)], ea5, trivial, fun od => ?_⟩
          have eF7 : (upd H6 a (.frz od (.dK [(kS c, v)]))) F0 = some (.lst (Ts.map V.ref)) := (upd_ne naF.symm).trans eF5
          refine ⟨_, rfl, tyL eF7, _, rfl, a, od, rfl, .inl ⟨_, upd_same, fun G hG => ?_⟩⟩
          obtain ⟨HL, hHL⟩ : ∃ HL, HL = upd H6 a (.frz od (.dK [(kS c, v)])) := ⟨_, rfl⟩
          rw [← hHL] at hG eF7 ⊢
          have ea7 : HL a = some (.frz od (.dK [(kS c, v)])) := by rw [hHL]; exact upd_same
          refine lc_it walk_keys (fun m H' => Same HL H' ∧ ∃ Us : List Addr, H' G = some (.lst (Us.map V.ref)) ∧ Us.length = m ∧ ZR (SrT H') (([(p, c)] : List (Nat × Nat)).take m) Us)
            ⟨same_upd hG, [], upd_same, rfl, trivial⟩ (fun m H' _ hP => hP.1 _ _ ea7) (fun m x H8 H9 hm hP hY => ?_) (fun H8 hP => ?_)
          · obtain ⟨s8, Us, eG, lU, zU⟩ := hP
            obtain ⟨rfl, kk, vv, hkk, rfl⟩ := hY
            have hm0 : m = 0 := by
              have : m < 1 := hm
              omega
            subst hm0
            obtain ⟨rfl, rfl⟩ : kS c = kk ∧ v = vv := by
              have := Option.some.inj hkk
              exact ⟨congrArg Prod.fst this, congrArg Prod.snd this⟩
            refine ⟨rfl, _, rfl, _, rfl, by show 2 ≤ sizeLine; decide, fun T2 hT2 => ⟨Us.map V.ref, same_upd hT2 _ _ eG, by rw [List.length_map, lU]; decide, ?_⟩⟩
            have nGT : T2 ≠ G := (ne_of_none eG hT2).symm
            have hU : Us = [] := List.length_eq_zero_iff.mp lU
            subst hU
            refine ⟨fun b o e => ?_, [T2], ?_, rfl, ?_, trivial⟩
            · rw [upd_ne (ne_of_none e hG)]
              exact same_upd hT2 _ _ (s8 _ _ e)
            · rw [upd_same]
              rfl
            · show (upd (upd H9 T2 (.tup [nI p, .str (Tx [c])])) G _) T2 = _
              rw [upd_ne nGT, upd_same]
          · obtain ⟨s8, Us, eG, lU, zU⟩ := hP
            have hl8 : ([(kS c, v)] : List (L2.Key × V)).length = 1 := rfl
            have lT := z5.len
            have lT2 := sureTo_len k l p
            have lU1 : Us.length = 1 := lU
            refine ⟨F0, G, _, _, rfl, rfl, s8 _ _ eF7, eG, by rw [List.length_map, List.length_map]; exact sl_le (by omega), ?_⟩
            have naF2 : a ≠ F0 := naF
            refine ⟨(upd_ne naF2).trans (s8 _ _ ea7), ?_⟩
            have keep : ∀ x T, SrT H8 x T → SrT (upd (upd H8 F0 (.lst (Ts.map V.ref ++ Us.map V.ref))) a (.dK [(kS c, v)])) x T := fun x T h => by
              have h2 : H8 T = some (.tup [nI x.1, .str (Tx [x.2])]) := h
              show (upd (upd H8 F0 _) a _) T = _
              rw [upd_ne (ne_of h2 (s8 _ _ ea7) (by intro z; cases z)), upd_ne (ne_of h2 (s8 _ _ eF7) (by intro z; cases z))]
              exact h2
            have z8 : ZR (SrT H8) ((List.range p).flatMap (sureAt k l)) Ts := z5.imp fun x T h => by
              have h2 : H6 T = some (.tup [nI x.1, .str (Tx [x.2])]) := h
              refine s8 _ _ ?_
              rw [hHL, upd_ne (ne_of h2 ea5 (by intro z; cases z))]
              exact h2
            refine ⟨_, _, y5, Ts ++ Us, rfl, ?_, ?_, ?_⟩
            · intro b o hb e
              by_cases z : b = a
              · subst z
                rw [upd_same]
                have e6 := s45 b o hb e
                rw [ea5] at e6
                exact e6
              · rw [upd_ne z, upd_ne hb]
                refine s8 _ _ ?_
                rw [hHL, upd_ne z]
                exact s45 b o hb e
            · rw [upd_ne naF2.symm, upd_same, List.map_append]
            · rw [List.range_succ, List.flatMap_append]
              have h3 : ([p].flatMap (sureAt k l)) = [(p, c)] := by simp [eS]
              rw [h3]
              exact (z8.app zU).imp keep
        · obtain ⟨a1, a2, a3, Ts', ee, rr⟩ := stay (by
            unfold sureAt
            rw [if_neg]
            intro z
            rw [← o1] at z
            exact of_decide_eq_false c2 z.2)
          exact ⟨a1, a2, a3, Ts', ee, rr⟩
      · obtain ⟨a1, a2, a3, Ts', ee, rr⟩ := stay (by
          unfold sureAt
          rw [if_neg]
          intro z
          exact of_decide_eq_false c1 z.1)
        exact ⟨a1, a2, a3, Ts', ee, rr⟩
    · obtain ⟨y3, y4, y5, Ts, rfl, s4, eF4, z4⟩ := hP
      rw [List.length_map, la] at z4
      exact ⟨_, rfl, q1 hpos _ F0 Ts (((sameX s13).trans s4).new hHF) hHF eF4 z4⟩
end
end BR
set_option Elab.async false
set_option linter.all false
set_option maxRecDepth 100000
set_option maxHeartbeats 4000000
/-! K4: d.get(key, x) of a written dict whose keys are texts -/
namespace BR
open PySem PySem.Spec PyProof.Rows L2
def tKGet (K : PySem.W.Frag) (w : World) (td ty tx : TE) : TE := fun σ H Q => td σ H fun x H1 => ∃ d es n, x = .ref d ∧ KDict K w d es n ∧ ty σ H1 fun y H2 => tx σ H2 fun z H3 => ∃ (k : Str) (r : Option Value), y = .str k ∧ PySem.W.nsIn K d k = some r ∧
  match r with
  | none => Q z H3
  | some u => ∃ v0, RelV v0 u ∧ Q v0 H3
section
variable {X : Cx} {o e f : Expr} {apos cpos : Pos} {td ty tx : TE}
theorem pe_formsGet (hu : X.A.units + 1 < cLine) (ho : PE X o td) (he : PE X e ty) (hf : PE X f tx) (m : M2 X o "get" apos e f cpos) : PE X (.Call (.Attribute o "get" apos) [e, f] [] cpos) (tKGet X.K X.w td ty tx) := by
  refine ⟨fun pins s σ H Q I h => ?_⟩
  refine wpAny_Call_method m.base m.few m.line PySem.F.plainAttrs_dict PySem.F.slot_dict_get PySem.F.type_dict_get (thn (ho.run pins s σ H _ I h) fun u s1 ⟨x, H1, I1, rx, d, es, n, ex, D, q1⟩ => ?_)
  subst ex
  obtain rfl : u = Value.ref d := rx
  have mo := PySem.W.mapOf_K (prog := X.prog) (w := X.w) I1.kIn D.at_ D.lit
  refine ⟨mo.typeIs, fun b q => ?_, ?_⟩
  · cases q
    exact ⟨_, I1.kIn _ _ D.at_, rfl⟩
  · rw [m.trees]
    refine Calls.callWith_builtin rfl (Calls.evalArgs_plain (Calls.spliced_cons (thn (he.run pins s1 σ H1 _ I1 q1) fun iv s2 ⟨y, H2, I2, ry, q2⟩ =>
      Calls.spliced_cons (thn (hf.run pins s2 σ H2 _ I2 q2) fun fv s3 ⟨z, H3, I3, rz, k, r, ek, en, q3⟩ => Calls.spliced_nil ?_))))
    subst ek
    obtain ⟨t, rfl⟩ := ry
    have mo3 := PySem.W.mapOf_K (prog := X.prog) (w := X.w) I3.kIn D.at_ D.lit
    refine call_meetsIn PySem.F.slot_dict_get mo3.typeIs PySem.F.entry_dict_get (PySem.F.args_dict_get_3 _ _ _) (meets_dict_get_default (PySem.strKind X.prog X.w) d (PySem.strKind_is X.prog X.w k t) D.low fv) ⟨_, mo3, ?_⟩
    rw [PySem.W.find_K D.at_ en]
    cases r with
    | none => exact ⟨z, H3, I3.tok _, rz, q3⟩
    | some u =>
      obtain ⟨v0, rv, q⟩ := q3
      exact ⟨v0, H3, I3.tok _, rv, q⟩
end
end BR
set_option Elab.async false
set_option linter.all false
set_option maxRecDepth 100000
set_option maxHeartbeats 4000000
/-! D18: desk.py: is_name, is_number, parted, shown -/
namespace BR
open PySem PySem.Spec PyProof.Rows L2
def nmOk (w : List Nat) : Bool := decide (1 ≤ w.length) && decide (w.length ≤ 8) && w.all fun c => decide (c ∈ lLET)
def numOk (w : List Nat) : Bool := decide (1 ≤ w.length) && decide (w.length ≤ 9) && (w.all fun c => decide (c ∈ lFIG)) && (decide (w.length = 1) || !decide (w.getD 0 0 = 48))
section
variable {P : Program} {w : World} {K : PySem.W.Frag} {mg : Str → Option Value} {base : Heap} {f : Addr} {fd : FuncData}
def spIsName : Sp := fun vs H Q _ => ∃ w : List Nat, vs = [.str (Tx w)] ∧ As w ∧ w.length ≤ 10000 ∧ ∀ H', Same H H' → Q (.bl (nmOk w)) H'
theorem sc_is_name : FnScope ["word", "sign"] ["word"] (defScope s_is_name) := ⟨rfl, rfl, rfl, by decide +kernel, rfl, by decide +kernel, by decide +kernel⟩
theorem ok_is_name (T : Txt K mg) (F : FunP K "is_name" "is_name" s_is_name f fd) : FnOk P w K mg base CX0 1 f fd ["word"] spIsName := by
  refine F.ok sc_is_name (fun vs H Q E h => ?_) (fun cdv A outer s H vs Q E hr h => ?_)
  · obtain ⟨n, rfl, _⟩ := h
    rfl
  · obtain ⟨n, rfl, ha, hl, q⟩ := h
    refine ⟨_, PSs.nox (pss_one (ps_ret (pe_and (pe_chain op_le op_le pe_int (pe_callB call_len_str (by rfl) T.b_len (by decide +kernel) (pa_cons (pv 0) pa_nil)) (pe_gI T.c_MOST_LETTERS)) (pe_one (pe_cmpR (op_eqD hr.units) (pe_lc (own := [("sign", 1)]) (g := (gName 1)) (tt := _) (by rfl) sc_is_name.nd (pi_str (pv 0)) (blkOk_by (own := [("sign", 1)]) (N := ["word", "sign"]) (sc := defScope s_is_name) (by decide +kernel)) (fun _ _ _ _ _ => (pg_name (i := 1) sc_is_name.nd rfl (.inl rfl))) (fun _ _ _ _ _ => pts_one (pt_cmpR op_notIn_sign (pv 1) (pe_gS T.c_LETTERS) rfl)) (fun _ _ _ _ _ => (pv 1))) (pe_lst pa_nil) (nomark _)))))) , ?_⟩
    have hln : (Tx n).length ≤ sizeLine := by rw [Tx_len]; exact sl_le (by omega)
    have hz : (Tx n).cps.size = n.length := by simp [Tx]
    refine ⟨_, rfl, _, rfl, hln, _, _, rfl, rfl, _, rfl, ?_⟩
    rw [Tx_len]
    have no : (decide (1 ≤ n.length) && decide (n.length ≤ 8)) = false → Q (.bl false) H := fun e => by
      have := q H (Same.refl H)
      unfold nmOk at this
      rw [e, Bool.false_and] at this
      exact this
    refine iteB (fun c1 => ?_) (fun c1 => ⟨_, rfl, no ?_⟩)
    · refine ⟨_, _, rfl, rfl, _, rfl, ?_⟩
      have c1' := of_decide_eq_true c1
      refine iteB (fun c2 => ?_) (fun c2 => no ?_)
      · have c2' := of_decide_eq_true c2
        refine ⟨_, rfl, Tx n, rfl, fun D hD => ?_⟩
        refine lcF walk_str (fun i => !decide (n.getD i 0 ∈ lLET)) (fun i => .str (Tx [n.getD i 0])) hD (by omega) (fun _ _ => trivial) (fun i x H2 H3 hi s2 y N hN => ?_) (fun H2 s2 e2 => ?_)
        · obtain ⟨rfl, c, hc, rfl⟩ := y
          have hd : n.getD i 0 = c := by simp [List.getD_eq_getElem?_getD, txt_at hc]
          have hN2 := hN _ (Same.refl _)
          rw [hd] at hN2
          refine ⟨rfl, _, rfl, c, _, rfl, rfl, _, rfl, ?_⟩
          rw [Tx_cps]
          refine iteB (fun z => ⟨_, rfl, ?_⟩) (fun z => ?_)
          · rw [z, if_pos rfl] at hN2
            exact hN2
          · rw [z, if_neg (by decide)] at hN2
            exact hN2
        · rw [hz, lcV_filter (p := fun c => !decide (c ∈ lLET)) (v := fun c => .str (Tx [c]))] at e2
          refine ⟨Nat.zero_le _, fun p hp => eqD_nil (.inl (.inl ((same_upd hp) _ _ e2))) (.inl (.inl upd_same)) (fun x hx => ?_) ?_⟩
          · obtain ⟨c, hc, rfl⟩ := List.mem_map.mp hx
            refine .inr ⟨[c], rfl, fun d hd => ?_⟩
            rw [List.mem_singleton.mp hd]
            exact ha c ((List.mem_filter.mp hc).1)
          · rw [List.isEmpty_map, none_left fun c => decide (c ∈ lLET)]
            have e : nmOk n = n.all fun c => decide (c ∈ lLET) := by
              unfold nmOk
              rw [decide_eq_true (show 1 ≤ n.length by omega), decide_eq_true (show n.length ≤ 8 by omega)]
              rfl
            rw [← e]
            exact q _ (s2.trans (same_upd hp))
      · rw [decide_eq_true (show 1 ≤ n.length by omega), Bool.true_and]
        refine decide_eq_false fun z => of_decide_eq_false c2 (by omega)
    · rw [decide_eq_false (fun z => of_decide_eq_false c1 (by omega)), Bool.false_and]
def spIsNumber : Sp := fun vs H Q _ => ∃ w : List Nat, vs = [.str (Tx w)] ∧ As w ∧ w.length ≤ 10000 ∧ ∀ H', Same H H' → Q (.bl (numOk w)) H'
theorem sc_is_number : FnScope ["word", "sign"] ["word"] (defScope s_is_number) := ⟨rfl, rfl, rfl, by decide +kernel, rfl, by decide +kernel, by decide +kernel⟩
theorem ok_is_number (T : Txt K mg) (F : FunP K "is_number" "is_number" s_is_number f fd) : FnOk P w K mg base CX0 1 f fd ["word"] spIsNumber := by
  refine F.ok sc_is_number (fun vs H Q E h => ?_) (fun cdv A outer s H vs Q E hr h => ?_)
  · obtain ⟨n, rfl, _⟩ := h
    rfl
  · obtain ⟨n, rfl, ha, hl, q⟩ := h
    refine ⟨_, PSs.nox (pss_cons (ps_if (PW.pt (pw_or (pt_not (pt_chain op_le op_le pe_int (pe_callB call_len_str (by rfl) T.b_len (by decide +kernel) (pa_cons (pv 0) pa_nil)) (pe_gI T.c_MOST_FIGURES))) (pw_or1 (pt_cmpR (op_neD hr.units) (pe_lc (own := [("sign", 1)]) (g := (gName 1)) (tt := _) (by rfl) sc_is_number.nd (pi_str (pv 0)) (blkOk_by (own := [("sign", 1)]) (N := ["word", "sign"]) (sc := defScope s_is_number) (by decide +kernel)) (fun _ _ _ _ _ => (pg_name (i := 1) sc_is_number.nd rfl (.inl rfl))) (fun _ _ _ _ _ => pts_one (pt_cmpR op_notIn_sign (pv 1) (pe_gS T.c_FIGURES) rfl)) (fun _ _ _ _ _ => (pv 1))) (pe_lst pa_nil) (nomark _)))))
        (pss_one (ps_ret pe_bl))
        pss_nil)
       (pss_one (ps_ret (pe_or (pe_cmpR op_eq (pe_callB call_len_str (by rfl) T.b_len (by decide +kernel) (pa_cons (pv 0) pa_nil)) pe_int (nomark _)) (pe_one (pe_cmpR op_ne (pe_ix ix_str (pv 0) pe_int (fun _ _ => rfl)) pe_str (nomark _))))))) , ?_⟩
    have hln : (Tx n).length ≤ sizeLine := by rw [Tx_len]; exact sl_le (by omega)
    have hz : (Tx n).cps.size = n.length := by simp [Tx]
    refine ⟨_, rfl, _, rfl, hln, _, _, rfl, rfl, _, rfl, ?_⟩
    rw [Tx_len]
    have no : (decide (1 ≤ n.length) && decide (n.length ≤ 9)) = false → Q (.bl false) H := fun e => by
      have := q H (Same.refl H)
      unfold numOk at this
      rw [e, Bool.false_and, Bool.false_and] at this
      exact this
    refine iteB (fun c1 => ?_) (fun c1 => ⟨_, rfl, no ?_⟩)
    · refine ⟨_, _, rfl, rfl, _, rfl, ?_⟩
      have c1' := of_decide_eq_true c1
      cases c2 : decide ((n.length : Int) ≤ 9) with
      | false =>
        refine no ?_
        rw [decide_eq_true (show 1 ≤ n.length by omega), Bool.true_and]
        exact decide_eq_false fun z => of_decide_eq_false c2 (by omega)
      | true =>
        have c2' := of_decide_eq_true c2
        refine iteF ⟨_, rfl, Tx n, rfl, fun D hD => ?_⟩
        have two : (decide (1 ≤ n.length) && decide (n.length ≤ 9)) = true := by
          rw [decide_eq_true (show 1 ≤ n.length by omega), decide_eq_true (show n.length ≤ 9 by omega)]
          rfl
        refine lcF walk_str (fun i => !decide (n.getD i 0 ∈ lFIG)) (fun i => .str (Tx [n.getD i 0])) hD (by omega) (fun _ _ => trivial) (fun i x H2 H3 hi s2 y N hN => ?_) (fun H2 s2 e2 => ?_)
        · obtain ⟨rfl, c, hc, rfl⟩ := y
          have hd : n.getD i 0 = c := by simp [List.getD_eq_getElem?_getD, txt_at hc]
          have hN2 := hN _ (Same.refl _)
          rw [hd] at hN2
          refine ⟨rfl, _, rfl, c, _, rfl, rfl, _, rfl, ?_⟩
          rw [Tx_cps]
          refine iteB (fun z => ⟨_, rfl, ?_⟩) (fun z => ?_)
          · rw [z, if_pos rfl] at hN2
            exact hN2
          · rw [z, if_neg (by decide)] at hN2
            exact hN2
        · rw [hz, lcV_filter (p := fun c => !decide (c ∈ lFIG)) (v := fun c => .str (Tx [c]))] at e2
          refine ⟨Nat.zero_le _, fun p hp => neD_nil (.inl (.inl ((same_upd hp) _ _ e2))) (.inl (.inl upd_same)) (fun x hx => ?_) ⟨_, rfl, ?_⟩⟩
          · obtain ⟨c, hc, rfl⟩ := List.mem_map.mp hx
            refine .inr ⟨[c], rfl, fun d hd => ?_⟩
            rw [List.mem_singleton.mp hd]
            exact ha c ((List.mem_filter.mp hc).1)
          · rw [List.isEmpty_map, none_left fun c => decide (c ∈ lFIG)]
            have s3 := s2.trans (same_upd (o := .lst []) hp)
            have qq := q _ s3
            unfold numOk at qq
            rw [two, Bool.true_and] at qq
            cases c3 : n.all fun c => decide (c ∈ lFIG) with
            | false =>
              rw [c3] at qq
              exact iteT qq
            | true =>
              rw [c3, Bool.true_and] at qq
              refine iteF ⟨_, rfl, _, rfl, hln, rfl, _, rfl, ?_⟩
              rw [Tx_len]
              have e1 : decide (V.int ((n.length : Nat) : Int) = V.int 1) = decide (n.length = 1) := by
                refine decide_eq_decide.mpr ⟨fun z => ?_, fun z => ?_⟩
                · have := V.int.inj z
                  omega
                · rw [z]
                  rfl
              rw [e1]
              refine iteB (fun c4 => ?_) (fun c4 => ?_)
              · rw [c4, Bool.true_or] at qq
                exact qq
              · rw [c4, Bool.false_or] at qq
                refine ⟨_, rfl, _, _, _, rfl, rfl, hln, at_txI (j := 0) rfl (getD_at (show 0 < n.length by omega)), rfl, ?_⟩
                have e2 : decide (V.str ⟨#[n.getD 0 0]⟩ = V.str (Tx [48])) = decide (n.getD 0 0 = 48) := sign_eq
                show Q (.bl (!decide (V.str ⟨#[n.getD 0 0]⟩ = V.str (Tx [48])))) _
                rw [e2]
                exact qq
    · rw [decide_eq_false (fun z => of_decide_eq_false c1 (by omega)), Bool.false_and]
/-- what is shown for a row -/
def shw (l : List Nat) : List Nat := if l = [] then [110, 111, 110, 101] else l
def spShown : Sp := fun vs H Q _ => ∃ l : List Nat, vs = [.str (Tx l)] ∧ Q (.str (Tx (shw l))) H
theorem sc_shown : FnScope ["row"] ["row"] (defScope s_shown) := ⟨rfl, rfl, rfl, by decide +kernel, rfl, by decide +kernel, by decide +kernel⟩
theorem tx_empty {l : List Nat} : decide (V.str (Tx l) = V.str (Tx [])) = decide (l = []) := by
  refine decide_eq_decide.mpr ⟨fun z => Tx_inj (V.str.inj z), fun z => by rw [z]⟩
theorem ok_shown (T : Txt K mg) (F : FunP K "shown" "shown" s_shown f fd) : FnOk P w K mg base CX0 1 f fd ["row"] spShown := by
  refine F.ok sc_shown (fun vs H Q E h => ?_) (fun cdv A outer s H vs Q E hr h => ?_)
  · obtain ⟨n, rfl, _⟩ := h
    rfl
  · obtain ⟨l, rfl, q⟩ := h
    refine ⟨_, PSs.nox (pss_one (ps_ret (pe_ifExp (pt_cmpR op_ne (pv 0) pe_str (nomark _)) (pv 0) pe_str))) , ?_⟩
    refine ⟨_, rfl, rfl, _, rfl, ?_⟩
    have e : (!decide (V.str (Tx l) = V.str (Str.ofString ""))) = !decide (l = []) := congrArg (! ·) tx_empty
    rw [e]
    unfold shw at q
    by_cases z : l = []
    · rw [if_pos z] at q
      rw [decide_eq_true z]
      exact q
    · rw [if_neg z] at q
      rw [decide_eq_false z]
      exact ⟨_, rfl, q⟩
end
end BR
set_option Elab.async false
set_option linter.all false
set_option maxRecDepth 100000
set_option maxHeartbeats 4000000
/-! D19: desk.py: parted -/
namespace BR
open PySem PySem.Spec PyProof.Rows L2
theorem tx_W (s : String) : Tx (Wt s) = Str.ofString s := Tx_eta _
theorem tx_eqW {l : List Nat} {s : String} : decide (V.str (Tx l) = V.str (Str.ofString s)) = decide (l = Wt s) := by
  refine decide_eq_decide.mpr ⟨fun z => ?_, fun z => by rw [z, tx_W]⟩
  have := V.str.inj z
  rw [← tx_W] at this
  exact Tx_inj this
def okKW (κ : Nat) (w : List Nat) : Bool := !((decide (κ = 97) && !nmOk w) || (decide (κ = 105) && !numOk w))
def formOf (w : List Nat) : List Nat := (lFORMS.lookup w).getD []
def isWR (w : List Nat) : Bool := decide (w = Wt "row") || decide (w = Wt "number")
/-- the words of an order, if it is one -/
def prt (ws : List (List Nat)) : Option (List (List Nat)) :=
  if isWR (ws.getD 0 []) = true then (if ws.length < 3 ∨ nmOk (ws.getD 1 []) = false then none else some [ws.getD 0 [], ws.getD 1 [], TL.joinL [32] (ws.drop 2)])
  else if ws.length ≠ (formOf (ws.getD 0 [])).length + 1 then none
  else if ((List.range (formOf (ws.getD 0 [])).length).all fun i => okKW ((formOf (ws.getD 0 [])).getD i 0) (ws.getD (i + 1) [])) = true then some ws else none
structure WsOk (ws : List (List Nat)) : Prop where
  ne : ws ≠ []
  each : ∀ w ∈ ws, 32 ∉ w ∧ As w ∧ w.length ≤ 1000
  len : ws.length ≤ 10
  head : isWR (ws.getD 0 []) = true ∨ ∃ p ∈ lFORMS, p.1 = ws.getD 0 []
theorem joinL_len : ∀ ws : List (List Nat), (∀ w ∈ ws, w.length ≤ 1000) → (TL.joinL [32] ws).length ≤ 1001 * ws.length
  | [], _ => Nat.zero_le _
  | [a], h => by
    have := h a List.mem_cons_self
    show a.length ≤ _
    simp
    omega
  | a :: b :: r, h => by
    have h1 := h a List.mem_cons_self
    have h2 := joinL_len (b :: r) fun w hw => h w (List.mem_cons_of_mem _ hw)
    show (a ++ ([32] ++ TL.joinL [32] (b :: r))).length ≤ _
    rw [List.length_append, List.length_append, List.length_cons (as := b :: r)]
    simp only [List.length_singleton]
    omega
/-- the written dict, the written pair -/
structure FormT (K : PySem.W.Frag) (w : World) : Prop where
  kd : ∃ es n, KDict K w (cA K "FORMS") es n
  at_ : ∀ p ∈ lFORMS, ∃ t, PySem.W.nsIn K (cA K "FORMS") (Tx p.1) = some (some (.str (Tx p.2) t))
  wr : ∀ H, SqT K H (cA K "WITH_ROW") [.str "row", .str "number"]
section
variable {P : Program} {w : World} {K : PySem.W.Frag} {mg : Str → Option Value} {base : Heap} {f : Addr} {fd : FuncData}
def wV (ws : List (List Nat)) : List V := ws.map fun w => .str (Tx w)
theorem wV_at {ws : List (List Nat)} {i : Nat} (h : i < ws.length) : (wV ws)[i]? = some (.str (Tx (ws.getD i []))) := by
  unfold wV
  rw [List.getElem?_map, List.getElem?_eq_getElem h, List.getD_eq_getElem?_getD, List.getElem?_eq_getElem h]
  rfl
theorem split_ws {ws : List (List Nat)} (h : WsOk ws) : (Txt.split (Tx (TL.joinL [32] ws)) (Str.ofString " ")).map V.str = wV ws := by
  have e1 : Str.ofString " " = Tx [32] := rfl
  have e2 := SX.split_S (a := TL.joinL [32] ws) (b := [32]) (by simp) (by rfl)
  have e3 : TL.spl [32] 0 [] (TL.joinL [32] ws) = ws := SX.spl_join h.ne fun p hp => (h.each p hp).1
  rw [e3] at e2
  rw [e1]
  have e4 : Txt.split (Tx (TL.joinL [32] ws)) (Tx [32]) = ws.map Tx := e2
  rw [e4, List.map_map]
  rfl
theorem eqV_W {l : List Nat} {s : String} : eqV (V.str (Str.ofString s)) (V.str (Tx l)) = decide (l = Wt s) := by
  show decide (Str.ofString s = Tx l) = _
  refine decide_eq_decide.mpr ⟨fun z => ?_, fun z => by rw [z, tx_W]⟩
  rw [← tx_W] at z
  exact (Tx_inj z).symm
theorem inV_WR {l : List Nat} : (if false = true then !inV (V.str (Tx l)) [V.str (Str.ofString "row"), V.str (Str.ofString "number")] else inV (V.str (Tx l)) [V.str (Str.ofString "row"), V.str (Str.ofString "number")]) = isWR l := by
  rw [if_neg (by decide)]
  show ((eqV (V.str (Str.ofString "row")) (V.str (Tx l))) || ((eqV (V.str (Str.ofString "number")) (V.str (Tx l))) || false)) = _
  rw [eqV_W, eqV_W, Bool.or_false]
  rfl
theorem dec_len {a b : Nat} : decide (V.int (a : Int) = V.int (b : Int)) = decide (a = b) := by
  refine decide_eq_decide.mpr ⟨fun z => ?_, fun z => by rw [z]⟩
  have := V.int.inj z
  omega
theorem getD_mem {ws : List (List Nat)} {i : Nat} (h : i < ws.length) : ws.getD i [] ∈ ws := by
  rw [List.getD_eq_getElem?_getD, List.getElem?_eq_getElem h]
  exact List.getElem_mem _
def spParted (C : Addr) : Sp := fun vs H Q E => ∃ ws : List (List Nat), vs = [.str (Tx (TL.joinL [32] ws))] ∧ WsOk ws ∧ (∀ r, prt ws = some r → ∀ H' D, Same H H' → H D = none → H' D = some (.lst (wV r)) → Q (.ref D) H') ∧ (prt ws = none → ∀ H', Same H H' → E (.ref C) none H')
theorem sc_parted : FnScope ["row", "words", "form", "kind", "word"] ["row"] (defScope s_parted) := ⟨rfl, rfl, rfl, by decide +kernel, rfl, by decide +kernel, by decide +kernel⟩
theorem ok_parted (T : Txt K mg) (FT : FormT K w) (F : FunP K "parted" "parted" s_parted f fd) (g_is_name : Dk P w K mg base CX0 1 "is_name" ["word"] spIsName) (g_is_number : Dk P w K mg base CX0 1 "is_number" ["word"] spIsNumber) : FnOk P w K mg base (L2.CX P w) 2 f fd ["row"] (spParted (cA K "NoRow")) := by
  refine F.ok sc_parted (fun vs H Q E h => ?_) (fun cdv A outer s H vs Q E hr h => ?_)
  · obtain ⟨n, rfl, _⟩ := h
    rfl
  · obtain ⟨ws, rfl, hw, q1, q2⟩ := h
    have hu := hu_of hr
    refine ⟨_, (pss_cons (ps_if (pt_not (pt_val (pe_callB call_isi (by rfl) T.b_isinstance (by decide +kernel) (pa_cons (pv 0) (pa_cons (pe_bltn (v := .ty "str") (by rfl) T.b_str (by decide +kernel) rfl) pa_nil)))))
        (pss_one (ps_raise rfl (takes_of rfl rfl rfl rfl) (T.x_NoRow.mk')))
        pss_nil)
       (pss_cons (ps_set (i := 1) sc_parted.nd rfl (.inl rfl) (pe_split (pv 0) pe_str))
       (pss_cons (ps_if (pt_cmpR op_in_seq (pe_ix (show IxR _ (rIxL K) from ix_list) (pv 1) pe_int (fun _ _ => rfl)) (pe_glob (v := .ref _) rfl T.g_WITH_ROW rfl) rfl)
        (pss_cons (ps_if (PW.pt (pw_or (pt_cmpR op_lt (pe_callB call_len_seq (by rfl) T.b_len (by decide +kernel) (pa_cons (pv 1) pa_nil)) pe_int (nomark _)) (pw_or1 (pt_not (pt_val (g_is_name.call hr pass0 (pa_cons (pe_ix (show IxR _ (rIxL K) from ix_list) (pv 1) pe_int (fun _ _ => rfl)) pa_nil)))))))
        (pss_one (ps_raise rfl (takes_of rfl rfl rfl rfl) (T.x_NoRow.mk')))
        pss_nil)
       (pss_one (ps_ret (pe_lst (pa_cons (pe_ix (show IxR _ (rIxL K) from ix_list) (pv 1) pe_int (fun _ _ => rfl)) (pa_cons (pe_ix (show IxR _ (rIxL K) from ix_list) (pv 1) pe_int (fun _ _ => rfl)) (pa_cons (pe_join pe_str (pe_slice sl_list (pv 1) (po_some pe_int) po_none)) pa_nil)))))))
        pss_nil)
       (pss_cons (ps_set (i := 2) sc_parted.nd rfl (.inl rfl) (pe_formsGet hu (pe_glob (v := .ref _) rfl T.g_FORMS rfl) (pe_ix (show IxR _ (rIxL K) from ix_list) (pv 1) pe_int (fun _ _ => rfl)) pe_non ⟨rfl, rfl, rfl, rfl⟩))
       (pss_cons (ps_if (PW.pt (pw_or (pt_cmpR op_isN (pv 2) pe_non (nomark _)) (pw_or1 (pt_cmpR op_ne (pe_callB call_len_seq (by rfl) T.b_len (by decide +kernel) (pa_cons (pv 1) pa_nil)) (pe_op op_add (pe_callB call_len_str (by rfl) T.b_len (by decide +kernel) (pa_cons (pv 2) pa_nil)) pe_int) (nomark _)))))
        (pss_one (ps_raise rfl (takes_of rfl rfl rfl rfl) (T.x_NoRow.mk')))
        pss_nil)
       (pss_cons (ps_for (passes_of rfl) rfl (pi_zipSL (by rfl) T.b_zip (pa_cons (pv 2) (pa_cons (pe_slice sl_list (pv 1) (po_some pe_int) po_none) pa_nil))) (pg_tup (by rfl) (pgs_cons (pg_name (i := 3) sc_parted.nd rfl (.inl rfl)) (pgs_cons (pg_name (i := 4) sc_parted.nd rfl (.inl rfl)) pgs_nil)))
        (pss_one (ps_if (PW.pt (pw_or (PW.pt (pw_and (pt_cmpR op_eq (pv 3) pe_str (nomark _)) (pw_and1 (pt_not (pt_val (g_is_name.call hr pass0 (pa_cons (pv 4) pa_nil))))))) (pw_or1 (PW.pt (pw_and (pt_cmpR op_eq (pv 3) pe_str (nomark _)) (pw_and1 (pt_not (pt_val (g_is_number.call hr pass0 (pa_cons (pv 4) pa_nil))))))))))
        (pss_one (ps_raise rfl (takes_of rfl rfl rfl rfl) (T.x_NoRow.mk')))
        pss_nil)))
       (pss_one (ps_ret (pv 1))))))))) , ?_⟩
    have hjl := joinL_len ws fun w hw' => (hw.each w hw').2.2
    have hwl := hw.len
    have hpos : 0 < ws.length := List.length_pos_iff.mpr hw.ne
    refine ⟨_, rfl, _, _, _, _, _, rfl, .ty "str", .base (.str _), kit_ty (r := true) (by decide +kernel), _, rfl, ?_⟩
    refine iteF ⟨_, rfl, ⟨_, rfl⟩, _, _, rfl, rfl, by rfl, by rw [Tx_len]; exact sl_le (by omega), fun D hD => ?_⟩
    rw [split_ws hw]
    have s1 := same_upd (o := .lst (wV ws)) hD
    have eD : (upd H D (.lst (wV ws))) D = some (.lst (wV ws)) := upd_same
    generalize upd H D (.lst (wV ws)) = H1 at s1 eD ⊢
    -- words[0] in WITH_ROW
    refine ⟨_, rfl, D, _, _, _, rfl, rfl, .inl (.inl eD), atI_nat (j := 0) (wV_at hpos), _, _, rfl, .inr (FT.wr H1), rfl, rfl, _, rfl, ?_⟩
    rw [inV_WR]
    have at0 : ∀ {H' : Hp} {i : Nat}, Same H1 H' → i < ws.length → ∃ xs, SqL K H' D xs ∧ atI xs (i : Int) = some (.str (Tx (ws.getD i []))) := fun s h => ⟨_, .inl (.inl (s _ _ eD)), atI_nat (wV_at h)⟩
    refine iteB (fun c1 => ?_) (fun c1 => ?_)
    · -- a row at the end
      have e0 : prt ws = if ws.length < 3 ∨ nmOk (ws.getD 1 []) = false then none else some [ws.getD 0 [], ws.getD 1 [], TL.joinL [32] (ws.drop 2)] := by
        unfold prt
        rw [if_pos c1]
      refine ⟨_, rfl, D, _, rfl, .inl (.inl (.inl eD)), _, _, rfl, rfl, _, rfl, ?_⟩
      have hlw : (wV ws).length = ws.length := List.length_map ..
      rw [hlw]
      have e3 : decide (((ws.length : Nat) : Int) < 3) = decide (ws.length < 3) := decide_eq_decide.mpr ⟨fun z => by omega, fun z => by omega⟩
      rw [e3]
      refine iteB (fun c2 => ?_) (fun c2 => ?_)
      · refine q2 ?_ _ s1
        rw [e0, if_pos (.inl (of_decide_eq_true c2))]
      · have c2' : ¬ ws.length < 3 := of_decide_eq_false c2
        have m1 := getD_mem (ws := ws) (i := 1) (by omega)
        refine ⟨_, rfl, D, _, _, _, rfl, rfl, .inl (.inl eD), atI_nat (j := 1) (wV_at (by omega)), ws.getD 1 [], rfl, (hw.each _ m1).2.1, by have := (hw.each _ m1).2.2; omega, fun H2 s2 => ⟨_, rfl, ?_⟩⟩
        cases c3 : nmOk (ws.getD 1 []) with
        | false =>
          refine iteT (q2 ?_ _ (s1.trans s2))
          rw [e0, if_pos (.inr c3)]
        | true =>
          have er : prt ws = some [ws.getD 0 [], ws.getD 1 [], TL.joinL [32] (ws.drop 2)] := by
            rw [e0, if_neg]
            intro z
            rcases z with z | z
            · exact c2' z
            · rw [c3] at z
              cases z
          have eD2 := s2 _ _ eD
          refine iteF ⟨_, rfl, D, _, _, _, rfl, rfl, .inl (.inl eD2), atI_nat (j := 0) (wV_at hpos), _, rfl, D, _, _, _, rfl, rfl, .inl (.inl eD2), atI_nat (j := 1) (wV_at (by omega)), ⟨_, rfl⟩, _, rfl, _, rfl, D, _, rfl, .inl (.inl eD2), fun L hL => ?_⟩
          have ecut : cutV (wV ws) (some 2) none = wV (ws.drop 2) := by
            have := cutV_from (wV ws) 2
            refine this.trans ?_
            unfold wV
            rw [List.map_drop]
          have s3 := s2.trans (same_upd (o := .lst (cutV (wV ws) (some 2) none)) hL)
          have eL : (upd H2 L (.lst (cutV (wV ws) (some 2) none))) L = some (.lst (((ws.drop 2).map Tx).map V.str)) := by
            rw [upd_same, ecut, List.map_map]
            rfl
          refine ⟨Tx [32], L, (ws.drop 2).map Tx, rfl, rfl, .inl (.inl (.inl eL)), ?_, ?_⟩
          · have hb : ∀ l : List (List Nat), (∀ x ∈ l, x.length ≤ 1000) → ((l.map Tx).map (·.length)).sum ≤ 1000 * l.length := by
              intro l
              induction l with
              | nil => intro _; exact Nat.le_refl _
              | cons a r ih =>
                intro h
                rw [List.map_cons, List.map_cons, List.sum_cons, Tx_len, List.length_cons]
                have := ih fun x hx => h x (List.mem_cons_of_mem _ hx)
                have := h a List.mem_cons_self
                omega
            have h1 := hb (ws.drop 2) fun x hx => (hw.each x (List.mem_of_mem_drop hx)).2.2
            rw [List.length_map, Tx_len]
            have h2 : (ws.drop 2).length ≤ 10 := by rw [List.length_drop]; omega
            have h3 : ([32] : List Nat).length = 1 := rfl
            rw [h3]
            omega
          · rw [joinT]
            refine ⟨by show 3 ≤ sizeLine; decide, fun R hR => ?_⟩
            exact q1 _ er _ R ((s1.trans s3).trans (same_upd hR)) ((s1.trans s3).free hR) upd_same
    · -- a form
      obtain ⟨p, hp, hp1⟩ := hw.head.resolve_left (by rw [c1]; decide)
      have hform : formOf (ws.getD 0 []) = p.2 := by
        have h2 : ∀ p ∈ lFORMS, formOf p.1 = p.2 := by decide
        rw [← hp1]
        exact h2 p hp
      obtain ⟨t, hns⟩ := FT.at_ p hp
      rw [hp1] at hns
      obtain ⟨es, nn, KD⟩ := FT.kd
      have e0 : prt ws = if ws.length ≠ p.2.length + 1 then none else if ((List.range p.2.length).all fun i => okKW (p.2.getD i 0) (ws.getD (i + 1) [])) = true then some ws else none := by
        unfold prt
        rw [c1, if_neg (by decide), hform]
      have hpl : p.2.length ≤ 3 := by
        have h2 : ∀ p ∈ lFORMS, p.2.length ≤ 3 := by decide
        exact h2 p hp
      have hlp : (Tx p.2).length ≤ sizeLine := by rw [Tx_len]; exact sl_le (by omega)
      refine ⟨_, es, nn, rfl, KD, _, rfl, D, _, _, _, rfl, rfl, .inl (.inl eD), atI_nat (j := 0) (wV_at hpos), _, _, rfl, hns, .str (Tx p.2), ⟨t, rfl⟩, ?_⟩
      refine ⟨_, rfl, rfl, _, rfl, ?_⟩
      rw [decide_eq_false (show ¬ V.str (Tx p.2) = V.non from fun z => by cases z)]
      refine iteF ⟨_, rfl, D, _, rfl, .inl (.inl (.inl eD)), _, rfl, _, rfl, hlp, _, _, rfl, rfl, rfl, _, rfl, ?_⟩
      have hlw : (wV ws).length = ws.length := List.length_map ..
      rw [hlw, Tx_len]
      have e4 : (!decide (V.int ((ws.length : Nat) : Int) = V.int (((p.2.length : Nat) : Int) + 1))) = !decide (ws.length = p.2.length + 1) := congrArg (! ·) (dec_len (a := ws.length) (b := p.2.length + 1))
      rw [e4]
      refine iteB (fun c2 => ?_) (fun c2 => ?_)
      · refine q2 ?_ _ s1
        rw [e0, if_pos]
        intro z
        rw [decide_eq_true z] at c2
        cases c2
      · have c2' : ws.length = p.2.length + 1 := Decidable.byContradiction fun z => by
          rw [decide_eq_false z] at c2
          cases c2
        rw [if_neg (fun z => z c2')] at e0
        -- for kind, word in zip(form, words[1:])
        refine ⟨_, rfl, _, rfl, _, rfl, D, _, rfl, .inl (.inl eD), fun L hL => ?_⟩
        have ecut : cutV (wV ws) (some 1) none = wV (ws.drop 1) := by
          have := cutV_from (wV ws) 1
          refine this.trans ?_
          unfold wV
          rw [List.map_drop]
        have s2 := same_upd (o := .lst (cutV (wV ws) (some 1) none)) hL
        have eL : (upd H1 L (.lst (cutV (wV ws) (some 1) none))) L = some (.lst (wV (ws.drop 1))) := by rw [upd_same, ecut]
        generalize upd H1 L (.lst (cutV (wV ws) (some 1) none)) = H2 at s2 eL ⊢
        refine ⟨p.2, L, wV (ws.drop 1), rfl, .inl (.inl eL), ?_⟩
        have hlw2 : (wV (ws.drop 1)).length = p.2.length := by
          unfold wV
          rw [List.length_map, List.length_drop]
          omega
        rw [hlw2, Nat.min_self]
        have bad : ∀ j, j < p.2.length → okKW (p.2.getD j 0) (ws.getD (j + 1) []) = false → prt ws = none := fun j hj h => by
          rw [e0, if_neg]
          intro z
          have := List.all_eq_true.mp z j (List.mem_range.mpr hj)
          rw [h] at this
          cases this
        refine for_it walk_T (fun j σ H' => ∃ (y3 y4 : Option V), σ = [some (.str (Tx (TL.joinL [32] ws))), some (.ref D), some (.str (Tx p.2)), y3, y4] ∧ Same H2 H' ∧ ∀ i, i < j → okKW (p.2.getD i 0) (ws.getD (i + 1) []) = true)
          ⟨_, _, rfl, Same.refl _, fun i h => absurd h (Nat.not_lt_zero _)⟩ (fun j σ H' _ hP => ?_) (fun j x σ H3 H4 hj hP hY => ?_) (fun σ H3 hP => ?_)
        · obtain ⟨_, _, _, s3, _⟩ := hP
          exact .inl (.inl (s3 _ _ eL))
        · obtain ⟨y3, y4, rfl, s3, ok3⟩ := hP
          obtain ⟨T', xs, rfl, hT, rfl, c, y, hc, hy, rfl⟩ := hY
          have hcD : p.2.getD j 0 = c := by simp [List.getD_eq_getElem?_getD, hc]
          have hj1 : j + 1 < ws.length := by omega
          have hwj : (wV (ws.drop 1))[j]? = some (.str (Tx (ws.getD (j + 1) []))) := by
            rw [wV_at (by rw [List.length_drop]; omega)]
            congr 3
            rw [List.getD_eq_getElem?_getD, List.getElem?_drop, List.getD_eq_getElem?_getD, Nat.add_comm]
          rw [hwj] at hy
          obtain rfl := Option.some.inj hy
          refine ⟨T', _, rfl, SqT.of upd_same, rfl, _, _, rfl, _, _, rfl, rfl, ?_⟩
          have s4 := s3.trans (same_upd (o := .tup [V.str (Tx [c]), V.str (Tx (ws.getD (j + 1) []))]) hT)
          generalize upd H3 T' (.tup [V.str (Tx [c]), V.str (Tx (ws.getD (j + 1) []))]) = H5 at s4 ⊢
          obtain ⟨wj, hwjD⟩ : ∃ wj, wj = ws.getD (j + 1) [] := ⟨_, rfl⟩
          have hmw := getD_mem hj1
          rw [← hwjD] at hmw ⊢
          obtain ⟨_, has, hln⟩ := hw.each _ hmw
          have e97 : decide (V.str (Tx [c]) = V.str (Str.ofString "a")) = decide (c = 97) := sign_eq (b := 97)
          have e105 : decide (V.str (Tx [c]) = V.str (Str.ofString "i")) = decide (c = 105) := sign_eq (b := 105)
          have okE : okKW (p.2.getD j 0) (ws.getD (j + 1) []) = !((decide (c = 97) && !nmOk wj) || (decide (c = 105) && !numOk wj)) := by
            rw [hcD, ← hwjD]
            rfl
          have good : ∀ H6, Same H5 H6 → okKW (p.2.getD j 0) (ws.getD (j + 1) []) = true → ∃ (z3 z4 : Option V), ([some (.str (Tx (TL.joinL [32] ws))), some (.ref D), some (.str (Tx p.2)), some (.str (Tx [c])), some (.str (Tx wj))] : L2.St) = [some (.str (Tx (TL.joinL [32] ws))), some (.ref D), some (.str (Tx p.2)), z3, z4] ∧ Same H2 H6 ∧ ∀ i, i < j + 1 → okKW (p.2.getD i 0) (ws.getD (i + 1) []) = true := fun H6 s6 h => by
            refine ⟨_, _, rfl, s4.trans s6, fun i hi => ?_⟩
            by_cases z : i = j
            · rw [z]
              exact h
            · exact ok3 i (by omega)
          have raise : ∀ H6, Same H5 H6 → okKW (p.2.getD j 0) (ws.getD (j + 1) []) = false → E (.ref (cA K "NoRow")) none H6 := fun H6 s6 h => q2 (bad j hj h) _ (s1.trans (s2.trans (s4.trans s6)))
          -- the second half of the test
          refine ⟨_, rfl, rfl, _, rfl, ?_⟩
          rw [e97]
          cases c97 : decide (c = 97) with
          | true =>
            have c105 : decide (c = 105) = false := by
              have := of_decide_eq_true c97
              exact decide_eq_false (by omega)
            rw [c97, c105, Bool.true_and, Bool.false_and, Bool.or_false, Bool.not_not] at okE
            refine iteT ⟨_, rfl, wj, rfl, has, by omega, fun H6 s6 => ⟨_, rfl, ?_⟩⟩
            cases hn : nmOk wj with
            | false =>
              rw [hn] at okE
              exact raise H6 s6 okE
            | true =>
              rw [hn] at okE
              refine iteF ⟨_, rfl, rfl, _, rfl, ?_⟩
              rw [e105, c105]
              obtain ⟨a3, a4, a5, a6⟩ := good H6 s6 okE
              exact ⟨a3, a4, a5, a6⟩
          | false =>
            rw [c97, Bool.false_and, Bool.false_or] at okE
            refine iteF ⟨_, rfl, rfl, _, rfl, ?_⟩
            rw [e105]
            cases c105 : decide (c = 105) with
            | true =>
              rw [c105, Bool.true_and, Bool.not_not] at okE
              refine iteT ⟨_, rfl, wj, rfl, has, by omega, fun H6 s6 => ⟨_, rfl, ?_⟩⟩
              cases hn : numOk wj with
              | false =>
                rw [hn] at okE
                exact raise H6 s6 okE
              | true =>
                rw [hn] at okE
                obtain ⟨a3, a4, a5, a6⟩ := good H6 s6 okE
                exact ⟨a3, a4, a5, a6⟩
            | false =>
              rw [c105, Bool.false_and] at okE
              obtain ⟨a3, a4, a5, a6⟩ := good H5 (Same.refl _) okE
              exact ⟨a3, a4, a5, a6⟩
        · obtain ⟨y3, y4, rfl, s3, ok3⟩ := hP
          have er : prt ws = some ws := by
            rw [e0, if_pos]
            exact List.all_eq_true.mpr fun i hi => ok3 i (List.mem_range.mp hi)
          have s23 := s2.trans s3
          exact ⟨_, rfl, q1 ws er _ D (s1.trans s23) hD (s23 _ _ eD)⟩
end
end BR
set_option Elab.async false
set_option linter.all false
set_option maxRecDepth 100000
set_option maxHeartbeats 4000000
/-! K5: a dict against the empty one -/
namespace BR
open PySem PySem.Spec PyProof.Rows L2
def rEqD0 (neg : Bool) : R2 := fun x y H Q => ∃ a b ks, x = .ref a ∧ y = .ref b ∧ H a = some (.dK ks) ∧ H b = some (.dK []) ∧ Q (.bl (if neg then !ks.isEmpty else ks.isEmpty)) H
section
variable {X : Cx} {k : Nat}
theorem op_eqDict0 (hr : Room k X.A) : OpR X (compareOp .Eq) (rEqD0 false) := by
  intro pins s σ H x y v u Q I rx ry h
  obtain ⟨a, b, ks, rfl, rfl, ea, eb, q⟩ := h
  obtain rfl : v = Value.ref a := rx
  obtain rfl : u = Value.ref b := ry
  obtain ⟨_, ya, va, ra, da⟩ := (show ObjOk X.prog X.w H s.heap a (.dK ks) from I.hok a _ ea)
  obtain ⟨_, yb, vb, rb, db⟩ := (show ObjOk X.prog X.w H s.heap b (.dK []) from I.hok b _ eb)
  have lb : vb.length = 0 := rb.length.symm
  have la := ra.length
  have hu := hr.units
  refine PySem.W.keq_eq (knd := mixKind X.prog X.w) (r := true) ya yb da db (by omega) (fun e => ?_) (fin_bl I q ?_)
  · have e0 : va = [] := List.length_eq_zero_iff.mp (e.trans lb)
    rw [e0]
    exact .nil
  · rw [lb, ← la]
    cases ks with
    | nil => rfl
    | cons x r => rfl
theorem op_neDict0 (hr : Room k X.A) : OpR X (compareOp .NotEq) (rEqD0 true) := by
  intro pins s σ H x y v u Q I rx ry h
  obtain ⟨a, b, ks, rfl, rfl, ea, eb, q⟩ := h
  obtain rfl : v = Value.ref a := rx
  obtain rfl : u = Value.ref b := ry
  obtain ⟨_, ya, va, ra, da⟩ := (show ObjOk X.prog X.w H s.heap a (.dK ks) from I.hok a _ ea)
  obtain ⟨_, yb, vb, rb, db⟩ := (show ObjOk X.prog X.w H s.heap b (.dK []) from I.hok b _ eb)
  have lb : vb.length = 0 := rb.length.symm
  have la := ra.length
  have hu := hr.units
  refine PySem.W.keq_ne (knd := mixKind X.prog X.w) (r := true) ya yb da db (by omega) (fun e => ?_) (fin_bl I q ?_)
  · have e0 : va = [] := List.length_eq_zero_iff.mp (e.trans lb)
    rw [e0]
    exact .nil
  · rw [lb, ← la]
    cases ks with
    | nil => rfl
    | cons x r => rfl
end
end BR
set_option Elab.async false
set_option linter.all false
set_option maxRecDepth 100000
set_option maxHeartbeats 4000000
/-! M7: what is kept; answers; plain. -/
namespace BR
open PySem PySem.Spec PyProof.Rows L2
def leS (a b : Str) : Prop := ¬ b.cps.toList < a.cps.toList
theorem leS_of {a b : Str} (h : ltCps b.cps.toList a.cps.toList = false) : leS a b := by
  rw [ltCps_eq] at h
  exact of_decide_eq_false h
theorem rising_pw : ∀ (l : List Str) (p : Str), risingS p l = true → (p :: l).Pairwise leS
  | [], p, _ => by simp
  | x :: r, p, h => by
    obtain ⟨h1, h2⟩ := Bool.and_eq_true_iff.mp (show (!ltCps x.cps.toList p.cps.toList && risingS x r) = true from h)
    have h3 : leS p x := leS_of (by simpa using h1)
    have ih := rising_pw r x h2
    refine List.pairwise_cons.mpr ⟨fun y hy => ?_, ih⟩
    rcases List.mem_cons.mp hy with e | e
    · rw [e]
      exact h3
    · have h4 : leS x y := (List.pairwise_cons.mp ih).1 y e
      have h5 : p.cps.toList ≤ x.cps.toList := h3
      have h6 : x.cps.toList ≤ y.cps.toList := h4
      exact List.le_trans h5 h6
theorem sorted_pw : ∀ {l : List Str}, sortedS l = true → l.Pairwise leS
  | [], _ => List.Pairwise.nil
  | x :: r, h => rising_pw r x h
theorem sorted_one {ys zs ks : List Str} (h1 : ys.Perm ks) (h2 : zs.Perm ks) (s1 : sortedS ys = true) (s2 : sortedS zs = true) : ys = zs := by
  refine List.Perm.eq_of_pairwise (le := leS) (fun a b _ _ x y => ?_) (sorted_pw s1) (sorted_pw s2) (h1.trans h2.symm)
  have e : a.cps.toList = b.cps.toList := List.le_antisymm (show a.cps.toList ≤ b.cps.toList from x) (show b.cps.toList ≤ a.cps.toList from y)
  rw [← Tx_eta a, ← Tx_eta b, e]
/-! ### what is kept -/
def kN (n : List Nat) : L2.Key := Sum.inr (Tx n)
theorem kN_inj (a b : List Nat) (h : kN a = kN b) : a = b := Tx_inj (Sum.inr.inj h)
/-- names that may be used -/
structure NmsOk (N : List (List Nat)) : Prop where
  nm : ∀ n ∈ N, nmOk n = true
  len : N.length ≤ 20
/-- rows by their names -/
structure Kp (N : List (List Nat)) (k : Nat) (kvs : List (L2.Key × V)) : Prop where
  keys : ∃ S : List Nat → Prop, KG kN kvs S ∧ ∀ n, S n → n ∈ N
  rows : ∀ n v, valV kvs (kN n) = some v → ∃ r, v = .str (Tx r) ∧ rowBy k r = true
theorem Kp.nil (N : List (List Nat)) (k : Nat) : Kp N k [] := ⟨⟨_, KG.nil, fun n h => h.elim⟩, fun n v h => by cases h⟩
theorem Kp.put {N : List (List Nat)} {k : Nat} {kvs : List (L2.Key × V)} (h : Kp N k kvs) {n r : List Nat} (hn : n ∈ N) (hr : rowBy k r = true) : Kp N k (putK kvs (kN n) (.str (Tx r))) := by
  obtain ⟨S, hS, hN⟩ := h.keys
  refine ⟨⟨_, hS.put kN_inj n _, fun m hm => ?_⟩, fun m v hv => ?_⟩
  · rcases hm with hm | hm
    · exact hN m hm
    · rw [hm]
      exact hn
  · rw [valV_put] at hv
    split at hv
    · exact ⟨r, (Option.some.inj hv).symm, hr⟩
    · exact h.rows m v hv
theorem valV_drop {κ : Type} [DecidableEq κ] (k j : κ) : ∀ kvs : List (κ × V), valV (dropK kvs k) j = if j = k then none else valV kvs j
  | [] => by
    show valV ([] : List (κ × V)) j = _
    split <;> rfl
  | p :: r => by
    have ih := valV_drop k j r
    unfold dropK at ih ⊢
    by_cases e : p.1 = k
    · rw [List.filter_cons_of_neg (by simp [e]), ih]
      by_cases z : j = k
      · rw [if_pos z, if_pos z]
      · rw [if_neg z, if_neg z, valV_neg (fun y => z (y.symm.trans e))]
    · rw [List.filter_cons_of_pos (by simp [e])]
      by_cases z : p.1 = j
      · rw [valV_pos z, valV_pos z, if_neg (fun y => e (z.trans y))]
      · rw [valV_neg z, valV_neg z, ih]
theorem KG.drop {α κ : Type} [DecidableEq κ] {f : α → κ} {kvs : List (κ × V)} {S : α → Prop} (h : KG f kvs S) (inj : ∀ a b, f a = f b → a = b) (m : α) : KG f (dropK kvs (f m)) (fun x => S x ∧ x ≠ m) := by
  obtain ⟨ms, h1, h2, h3⟩ := h
  refine ⟨ms.filter fun x => decide (f x ≠ f m), ?_, h2.filter _, fun x => ?_⟩
  · unfold dropK
    have e : ∀ (l : List (κ × V)), (l.filter fun kv => decide (kv.1 ≠ f m)).map (·.1) = (l.map (·.1)).filter fun k => decide (k ≠ f m) := fun l => by
      rw [List.filter_map]
      rfl
    rw [e, h1, List.filter_map]
    rfl
  · rw [List.mem_filter, h3, decide_eq_true_iff]
    exact ⟨fun z => ⟨z.1, fun y => z.2 (by rw [y])⟩, fun z => ⟨z.1, fun y => z.2 (inj _ _ y)⟩⟩
theorem Kp.drop {N : List (List Nat)} {k : Nat} {kvs : List (L2.Key × V)} (h : Kp N k kvs) (n : List Nat) : Kp N k (dropK kvs (kN n)) := by
  obtain ⟨S, hS, hN⟩ := h.keys
  refine ⟨⟨_, hS.drop kN_inj n, fun m hm => hN m hm.1⟩, fun m v hv => ?_⟩
  rw [valV_drop] at hv
  split at hv
  · cases hv
  · exact h.rows m v hv
theorem Kp.len {N : List (List Nat)} {k : Nat} {kvs : List (L2.Key × V)} (h : Kp N k kvs) (hN : NmsOk N) : kvs.length ≤ 20 := by
  obtain ⟨S, hS, hs⟩ := h.keys
  exact Nat.le_trans (hS.len hs) hN.len
/-- the row by a name -/
def rowOf (kvs : List (L2.Key × V)) (n : List Nat) : Option (List Nat) := match valV kvs (kN n) with
  | some (.str z) => some z.cps.toList
  | _ => none
theorem Kp.row {N : List (List Nat)} {k : Nat} {kvs : List (L2.Key × V)} (h : Kp N k kvs) (n : List Nat) : (valV kvs (kN n) = none ∧ rowOf kvs n = none) ∨ ∃ r, valV kvs (kN n) = some (.str (Tx r)) ∧ rowOf kvs n = some r ∧ rowBy k r = true := by
  cases e : valV kvs (kN n) with
  | none =>
    refine .inl ⟨rfl, ?_⟩
    unfold rowOf
    rw [e]
  | some v =>
    obtain ⟨r, rfl, hr⟩ := h.rows n v e
    refine .inr ⟨r, rfl, ?_, hr⟩
    unfold rowOf
    rw [e]
    show some (Tx r).cps.toList = some r
    rw [Tx_cps]
/-! ### answers -/
def numT (n : Nat) : List Nat := (Str.ofString (toString ((n : Nat) : Int))).cps.toList
theorem tx_num (n : Nat) : Str.ofString (toString ((n : Nat) : Int)) = Tx (numT n) := (Tx_eta _).symm
theorem numT_eq (n : Nat) : numT n = (Nat.toDigits 10 n).map Char.toNat := by
  unfold numT
  have h := text_ofNat n
  show (Str.ofString (toString (Int.ofNat n))).cps.toList = _
  rw [h]
theorem numT_len {n k : Nat} (hk : 1 ≤ k) (h : n < 10 ^ k) : (numT n).length ≤ k := by
  rw [numT_eq, List.length_map]
  exact digits10_le hk h
/-- a row with what is sure -/
def sureRow (k : Nat) (l : List Nat) : List Nat := (sureL k l).foldl (fun m x => m.set x.1 x.2) l
/-- the number in a text of figures -/
def valT (w : List Nat) : Nat := NumText.digitsVal w
def moreT : List Nat → List Nat
  | [] => Wt "none"
  | m :: _ => numT m
/-- an answer: a text, or which exception -/
def tellM (k : Nat) (head row more : List Nat) : Except Nat (List Nat) :=
  if head = Wt "show" then .ok (shw row)
  else if head = Wt "right" then .ok (if isR row = true then Wt "yes" else Wt "no")
  else if head = Wt "may" then .ok (if (dpt k row).isEmpty = true then Wt "no" else Wt "yes")
  else if head = Wt "nth" then (if valT more < Wn k row then .ok (shw (nF k row (valT more))) else .error 4)
  else if head = Wt "sure" then (if 0 < Wn k row then .ok (shw (sureRow k row)) else .error 6)
  else if head = Wt "many" then .ok (numT (Wn k row))
  else if head = Wt "number" then (if isF k row more = true then .ok (numT (nO k row more)) else .error 5)
  else if head = Wt "fewest" then (if row.length % 2 = 1 then .ok (Wt "none") else .ok (numT (bst k row (row.length / 2) 0).1 ++ [32] ++ shw ((bst k row (row.length / 2) 0).2.map br)))
  else .ok (moreT (dpt k row))
theorem trn_row {k : Nat} (hk : k ≤ 4) {l : List Nat} (h : rowBy k l = true) : rowBy k (trn l) = true := by
  have hl := rowBy_len h
  have h2 : ∀ c ∈ l, c ∈ kSet k ++ [63] := fun c hc => of_decide_eq_true (List.all_eq_true.mp (Bool.and_eq_true_iff.mp h).2 c hc)
  have ho : ∀ k, k ≤ 4 → ∀ c ∈ kSet k, oth c ∈ kSet k := by decide
  unfold rowBy
  refine Bool.and_eq_true_iff.mpr ⟨decide_eq_true ?_, List.all_eq_true.mpr fun c hc => decide_eq_true ?_⟩
  · unfold trn
    rw [List.length_map, List.length_reverse]
    exact hl
  · unfold trn at hc
    obtain ⟨d, hd, rfl⟩ := List.mem_map.mp hc
    have hd2 := h2 d (List.mem_reverse.mp hd)
    by_cases z : d = 63
    · rw [if_pos z]
      exact hd2
    · rw [if_neg z]
      rcases List.mem_append.mp hd2 with y | y
      · exact List.mem_append_left _ (ho k hk d y)
      · exact absurd (List.mem_singleton.mp y) z
end BR
set_option Elab.async false
set_option linter.all false
set_option maxRecDepth 100000
set_option maxHeartbeats 4000000
/-! D20: desk.py: Desk, its small methods -/
namespace BR
open PySem PySem.Spec PyProof.Rows L2
structure DeskT (K : PySem.W.Frag) : Prop where
  cls : Cls K (cA K "Desk")
  no : ∀ f ∈ (["kinds", "kept"] : List Str), NoAttr K (cA K "Desk") f
def dkF (k : Nat) (d : Addr) : List (Str × V) := [("kinds", nI k), ("kept", .ref d)]
/-- a desk at b -/
structure DeskAt (H : Hp) (C b dx d : Addr) (k : Nat) (kvs : List (L2.Key × V)) : Prop where
  eb : H b = some (.ins C dx (dkF k d))
  ed : H d = some (.dK kvs)
theorem DeskAt.same {H H' : Hp} {C b dx d : Addr} {k : Nat} {kvs : List (L2.Key × V)} (h : DeskAt H C b dx d k kvs) (s : Same H H') : DeskAt H' C b dx d k kvs := ⟨s _ _ h.eb, s _ _ h.ed⟩
/-- what stood stands, but for b and d -/
def SameB (b d : Addr) (H H' : Hp) : Prop := ∀ x o, x ≠ b → x ≠ d → H x = some o → H' x = some o
theorem sameB {b d : Addr} {H H' : Hp} (s : Same H H') : SameB b d H H' := fun x o _ _ e => s x o e
def keysS (kvs : List (L2.Key × V)) : List Str := kvs.filterMap fun kv => match kv.1 with
  | .inr z => some z
  | _ => none
def nmS (kvs : List (L2.Key × V)) : List Str := (keysS kvs).mergeSort fun a b => !ltCps b.cps.toList a.cps.toList
theorem nmS_perm (kvs : List (L2.Key × V)) : (nmS kvs).Perm (keysS kvs) := List.mergeSort_perm _ _
theorem nmS_sorted (kvs : List (L2.Key × V)) : sortedS (nmS kvs) = true := by
  refine sortedS_of_pairwise _ ?_
  have h := List.pairwise_mergeSort (le := fun a b : Str => !ltCps b.cps.toList a.cps.toList) (fun a b c h1 h2 => ?_) (fun a b => ?_) (keysS kvs)
  · exact h.imp fun {a b} z => by simpa using z
  · simp only [ltCps_eq, Bool.not_eq_true', decide_eq_false_iff_not] at h1 h2 ⊢
    exact List.le_trans (show a.cps.toList ≤ b.cps.toList from h1) (show b.cps.toList ≤ c.cps.toList from h2)
  · simp only [ltCps_eq]
    cases e : decide (b.cps.toList < a.cps.toList) with
    | false => rfl
    | true =>
      have h1 := of_decide_eq_true e
      have h2 : ¬ a.cps.toList < b.cps.toList := List.lt_asymm h1
      rw [decide_eq_false h2]
      rfl
theorem KG.keysS {kvs : List (L2.Key × V)} {S : List Nat → Prop} (h : KG kN kvs S) : ∃ ms : List (List Nat), kvs.map (·.1) = ms.map kN ∧ BR.keysS kvs = ms.map Tx ∧ ∀ m, m ∈ ms ↔ S m := by
  obtain ⟨ms, h1, _, h3⟩ := h
  refine ⟨ms, h1, ?_, h3⟩
  have e : BR.keysS kvs = (kvs.map (·.1)).filterMap fun k => match k with
      | .inr z => some z
      | _ => none := by
    unfold BR.keysS
    rw [List.filterMap_map]
    rfl
  rw [e, h1, List.filterMap_map]
  have e2 : ((fun k : L2.Key => match k with | .inr z => some z | _ => (none : Option Str)) ∘ kN) = fun m => some (Tx m) := rfl
  rw [e2]
  exact congrFun List.filterMap_eq_map ms
section
variable {P : Program} {w : World} {K : PySem.W.Frag} {mg : Str → Option Value} {base : Heap} {f : Addr} {fd : FuncData}
def spDInit (C : Addr) : Sp := fun vs H Q _ => ∃ (b dx : Addr), vs = [.ref b] ∧ H b = some (.ins C dx []) ∧ ∀ H' d, SameX b H H' → H d = none → DeskAt H' C b dx d 4 [] → Q .non H'
theorem sc_Desk___init__ : FnScope ["self"] ["self"] (defScope s_Desk___init__) := ⟨rfl, rfl, rfl, by decide +kernel, rfl, by decide +kernel, by decide +kernel⟩
theorem ok_Desk___init__ (T : Txt K mg) (B : DeskT K) (F : FunP K "__init__" "Desk.__init__" s_Desk___init__ f fd) : FnOk P w K mg base CX0 1 f fd ["self"] (spDInit (cA K "Desk")) := by
  refine F.ok sc_Desk___init__ (fun vs H Q E h => ?_) (fun cdv A outer s H vs Q E hr h => ?_)
  · obtain ⟨b, dx, rfl, _⟩ := h
    rfl
  · obtain ⟨b, dx, rfl, eb, q⟩ := h
    refine ⟨_, PSs.nox (pss_cons (ps_fld (pv 0) (pe_gI T.c_FIRST_KINDS) rfl)
       (pss_one (ps_fld (pv 0) pe_dnewK rfl))) , ?_⟩
    refine ⟨_, rfl, b, _, dx, _, rfl, eb, B.cls, B.no _ (by decide), (show (0 : Nat) < 1000 by decide), ?_⟩
    refine fun d hd => ?_
    have nbd : b ≠ d := ne_of_none upd_same hd
    refine ⟨_, rfl, b, _, dx, _, rfl, (upd_ne nbd).trans upd_same, B.cls, B.no _ (by decide), (show (1 : Nat) < 1000 by decide), ?_⟩
    have hHd : H d = none := by
      rw [upd_ne nbd.symm] at hd
      exact hd
    refine q _ d (fun x o hx e => ?_) hHd ⟨upd_same, (upd_ne nbd.symm).trans upd_same⟩
    rw [upd_ne hx, upd_ne (ne_of_none e hHd), upd_ne hx]
    exact e
def spDNames (C : Addr) : Sp := fun vs H Q _ => ∃ (b dx d : Addr) (k : Nat) (kvs : List (L2.Key × V)) (N : List (List Nat)), vs = [.ref b] ∧ DeskAt H C b dx d k kvs ∧ Kp N k kvs ∧ NmsOk N ∧ ∀ H' D, Same H H' → H D = none → H' D = some (.lst ((nmS kvs).map V.str)) → Q (.ref D) H'
theorem sc_Desk_names : FnScope ["self"] ["self"] (defScope s_Desk_names) := ⟨rfl, rfl, rfl, by decide +kernel, rfl, by decide +kernel, by decide +kernel⟩
theorem ok_Desk_names (T : Txt K mg) (B : DeskT K) (F : FunP K "names" "Desk.names" s_Desk_names f fd) : FnOk P w K mg base CX0 1 f fd ["self"] (spDNames (cA K "Desk")) := by
  refine F.ok sc_Desk_names (fun vs H Q E h => ?_) (fun cdv A outer s H vs Q E hr h => ?_)
  · obtain ⟨b, dx, d, k, kvs, N, rfl, _⟩ := h
    rfl
  · obtain ⟨b, dx, d, k, kvs, N, rfl, hD, hK, hN, q⟩ := h
    refine ⟨_, PSs.nox (pss_one (ps_ret (pe_callB (call_sortedD rfl) (by rfl) T.b_sorted (by decide +kernel) (pa_cons (pe_fld (pv 0) rfl) pa_nil)))) , ?_⟩
    obtain ⟨S, hS, hs⟩ := hK.keys
    obtain ⟨ms, m1, m2, m3⟩ := hS.keysS
    have hl := hK.len hN
    have hml : ms.length = kvs.length := by
      have := congrArg List.length m1
      simpa using this.symm
    refine ⟨_, rfl, b, _, dx, _, _, rfl, hD.eb, B.cls, B.no _ (by decide), rfl, d, kvs, ms.map Tx, rfl, .inl hD.ed, ?_, by rw [List.length_map]; omega, fun ys p h1 h2 hp => ?_⟩
    · rw [m1, List.map_map]
      rfl
    · have e : ys = nmS kvs := sorted_one h1 (by rw [← m2]; exact nmS_perm kvs) h2 (nmS_sorted kvs)
      exact q _ p (same_upd hp) hp (by rw [upd_same, e])
def spRowBy (C CE : Addr) : Sp := fun vs H Q E => ∃ (b dx d : Addr) (k : Nat) (kvs : List (L2.Key × V)) (N : List (List Nat)) (n : List Nat), vs = [.ref b, .str (Tx n)] ∧ DeskAt H C b dx d k kvs ∧ Kp N k kvs ∧ (∀ r, rowOf kvs n = some r → Q (.str (Tx r)) H) ∧ (rowOf kvs n = none → ∀ H', Same H H' → E (.ref CE) none H')
theorem sc_Desk_row_by : FnScope ["self", "name"] ["self", "name"] (defScope s_Desk_row_by) := ⟨rfl, rfl, rfl, by decide +kernel, rfl, by decide +kernel, by decide +kernel⟩
theorem ok_Desk_row_by (T : Txt K mg) (B : DeskT K) (F : FunP K "row_by" "Desk.row_by" s_Desk_row_by f fd) : FnOk P w K mg base (L2.CX P w) 1 f fd ["self", "name"] (spRowBy (cA K "Desk") (cA K "NoName")) := by
  refine F.ok sc_Desk_row_by (fun vs H Q E h => ?_) (fun cdv A outer s H vs Q E hr h => ?_)
  · obtain ⟨b, dx, d, k, kvs, N, n, rfl, _⟩ := h
    rfl
  · obtain ⟨b, dx, d, k, kvs, N, n, rfl, hD, hK, q1, q2⟩ := h
    have hu := hu_of hr
    refine ⟨_, (pss_cons (ps_if (pt_cmp (pc_dnotin hu (pv 1) (pe_fld (pv 0) rfl)))
        (pss_one (ps_raise rfl (takes_of rfl rfl rfl rfl) (T.x_NoName.mk')))
        pss_nil)
       (pss_one (ps_ret (pe_dget hu (pe_fld (pv 0) rfl) (pv 1) (fun _ _ => rfl))))) , ?_⟩
    refine ⟨_, rfl, _, rfl, b, _, dx, _, _, rfl, hD.eb, B.cls, B.no _ (by decide), rfl, d, _, rfl, DGet.k (k := kN n) hD.ed, _, rfl, ?_⟩
    rcases hK.row n with ⟨e1, e2⟩ | ⟨r, e1, e2, _⟩
    · rw [e1]
      exact iteT (q2 e2 _ (Same.refl H))
    · rw [e1]
      exact iteF ⟨_, rfl, b, _, dx, _, _, rfl, hD.eb, B.cls, B.no _ (by decide), rfl, _, rfl, d, _, rfl, dget_k (k := kN n) hD.ed e1, q1 r e2⟩
def spPutIn (C CE : Addr) : Sp := fun vs H Q E => ∃ (b dx d : Addr) (k : Nat) (kvs : List (L2.Key × V)) (N : List (List Nat)) (n r : List Nat), vs = [.ref b, .str (Tx n), .str (Tx r)] ∧ DeskAt H C b dx d k kvs ∧ kvs.length ≤ 1000 ∧ 1 ≤ k ∧ k ≤ 4 ∧ As r ∧ r.length ≤ 10000 ∧
  (rowBy k r = true → ∀ H', SameX d H H' → DeskAt H' C b dx d k (putK kvs (kN n) (.str (Tx r))) → Q .non H') ∧ (rowBy k r = false → ∀ H', Same H H' → E (.ref CE) none H')
theorem sc_Desk_put_in : FnScope ["self", "name", "row"] ["self", "name", "row"] (defScope s_Desk_put_in) := ⟨rfl, rfl, rfl, by decide +kernel, rfl, by decide +kernel, by decide +kernel⟩
theorem ok_Desk_put_in (T : Txt K mg) (B : DeskT K) (F : FunP K "put_in" "Desk.put_in" s_Desk_put_in f fd) (g_is_line : Dk P w K mg base CX0 3 "is_line" ["k", "thing"] spIsLine) : FnOk P w K mg base (L2.CX P w) 4 f fd ["self", "name", "row"] (spPutIn (cA K "Desk") (cA K "NoLine")) := by
  refine F.ok sc_Desk_put_in (fun vs H Q E h => ?_) (fun cdv A outer s H vs Q E hr h => ?_)
  · obtain ⟨b, dx, d, k, kvs, N, n, r, rfl, _⟩ := h
    rfl
  · obtain ⟨b, dx, d, k, kvs, N, n, r, rfl, hD, hl, k1, k4, ha, hrl, q1, q2⟩ := h
    have hu := hu_of hr
    refine ⟨_, (pss_cons (ps_if (pt_not (pt_val (g_is_line.call hr pass0 (pa_cons (pe_fld (pv 0) rfl) (pa_cons (pv 2) pa_nil)))))
        (pss_one (ps_raise rfl (takes_of rfl rfl rfl rfl) (T.x_NoLine.mk')))
        pss_nil)
       (pss_one (ps_dput hu (pe_fld (pv 0) rfl) (pv 1) (pv 2) rfl))) , ?_⟩
    refine ⟨_, rfl, b, _, dx, _, _, rfl, hD.eb, B.cls, B.no _ (by decide), rfl, _, rfl, k, r, rfl, k1, k4, ha, hrl, fun H1 s1 => ⟨_, rfl, ?_⟩⟩
    have hD1 := hD.same s1
    cases c : rowBy k r with
    | false => exact iteT (q2 c _ s1)
    | true =>
      refine iteF ⟨_, rfl, _, rfl, b, _, dx, _, _, rfl, hD1.eb, B.cls, B.no _ (by decide), rfl, _, rfl, d, _, rfl, DPut.k (k := kN n) hD1.ed (sl_lt (by omega)), ?_⟩
      refine q1 c _ ((sameX s1).up) ⟨?_, upd_same⟩
      rw [upd_ne (ne_of hD1.eb hD1.ed (by intro z; cases z))]
      exact hD1.eb
end
end BR
set_option Elab.async false
set_option linter.all false
set_option maxRecDepth 100000
set_option maxHeartbeats 4000000
/-! D21: desk.py: sure_row, counted -/
namespace BR
open PySem PySem.Spec PyProof.Rows L2
/-- an answer, as the caller hears it -/
def Ans (K : PySem.W.Frag) (H : Hp) (Q : VK) (E : XK) : Except Nat (List Nat) → Prop
  | .ok t => ∀ H', Same H H' → Q (.str (Tx t)) H'
  | .error e => ∀ H', Same H H' → E (.ref (exN K e)) none H'
theorem Ans.same {K : PySem.W.Frag} {H H1 : Hp} {Q : VK} {E : XK} {r : Except Nat (List Nat)} (h : Ans K H Q E r) (s : Same H H1) : Ans K H1 Q E r := by
  cases r with
  | ok t => exact fun H' s' => h H' (s.trans s')
  | error e => exact fun H' s' => h H' (s.trans s')
theorem sureL_lt {k : Nat} {l : List Nat} : ∀ x ∈ sureL k l, x.1 < l.length := fun x hx => by
  unfold sureL at hx
  obtain ⟨p, hp, hx⟩ := List.mem_flatMap.mp hx
  unfold sureAt at hx
  split at hx
  · obtain ⟨c, _, rfl⟩ := List.mem_map.mp hx
    exact List.mem_range.mp hp
  · cases hx
theorem fold_len : ∀ (xs : List (Nat × Nat)) (l : List Nat), (xs.foldl (fun m x => m.set x.1 x.2) l).length = l.length
  | [], l => rfl
  | x :: r, l => by
    rw [List.foldl_cons, fold_len r, List.length_set]
section
variable {P : Program} {w : World} {K : PySem.W.Frag} {mg : Str → Option Value} {base : Heap} {f : Addr} {fd : FuncData}
def spSureRow (C CE : Addr) : Sp := fun vs H Q E => ∃ (b dx d : Addr) (k : Nat) (kvs : List (L2.Key × V)) (l : List Nat), vs = [.ref b, .str (Tx l)] ∧ DeskAt H C b dx d k kvs ∧ 1 ≤ k ∧ k ≤ 4 ∧ rowBy k l = true ∧ (0 < Wn k l → ∀ H', Same H H' → Q (.str (Tx (sureRow k l))) H') ∧ (¬ 0 < Wn k l → ∀ H', Same H H' → E (.ref CE) none H')
theorem sc_Desk_sure_row : FnScope ["self", "row", "signs", "place", "bracket"] ["self", "row"] (defScope s_Desk_sure_row) := ⟨rfl, rfl, rfl, by decide +kernel, rfl, by decide +kernel, by decide +kernel⟩
theorem ok_Desk_sure_row (T : Txt K mg) (B : DeskT K) (F : FunP K "sure_row" "Desk.sure_row" s_Desk_sure_row f fd) (g_sure_places : Dk P w K mg base (L2.CX P w) 5 "sure_places" ["k", "row"] (spSure (cA K "NoFilling"))) :
    FnOk P w K mg base (L2.CX P w) 6 f fd ["self", "row"] (spSureRow (cA K "Desk") (cA K "NoFilling")) := by
  refine F.ok sc_Desk_sure_row (fun vs H Q E h => ?_) (fun cdv A outer s H vs Q E hr h => ?_)
  · obtain ⟨b, dx, d, k, kvs, l, rfl, _⟩ := h
    rfl
  · obtain ⟨b, dx, d, k, kvs, l, rfl, hD, k1, k4, hb, q1, q2⟩ := h
    refine ⟨_, (pss_cons (ps_set (i := 2) sc_Desk_sure_row.nd rfl (.inl rfl) (pe_callTy (call_listS rfl) (by rfl) T.b_list (by decide +kernel) (pa_cons (pv 1) pa_nil)))
       (pss_cons (ps_for (passes_of rfl) rfl (pi_list (g_sure_places.call hr (passes_call (takes_of rfl rfl rfl rfl) (fun _ _ _ _ h => h)) (pa_cons (pe_fld (pv 0) rfl) (pa_cons (pv 1) pa_nil)))) (pg_tup (by rfl) (pgs_cons (pg_name (i := 3) sc_Desk_sure_row.nd rfl (.inl rfl)) (pgs_cons (pg_name (i := 4) sc_Desk_sure_row.nd rfl (.inl rfl)) pgs_nil)))
        (pss_one (ps_asg (pv 4) (pg_sub (pv 2) (pv 3) set_list))))
       (pss_one (ps_ret (pe_join pe_str (pv 2)))))) , ?_⟩
    have hl := rowBy_len hb
    refine ⟨_, rfl, l, rfl, by omega, fun G hG => ?_⟩
    have s1 := same_upd (o := .lst (l.map fun c => V.str (Tx [c]))) hG
    have eG : (upd H G (.lst (l.map fun c => V.str (Tx [c])))) G = some (.lst (l.map fun c => V.str (Tx [c]))) := upd_same
    generalize upd H G (.lst (l.map fun c => V.str (Tx [c]))) = H1 at s1 eG ⊢
    have hD1 := hD.same s1
    refine ⟨_, rfl, b, _, dx, _, _, rfl, hD1.eb, B.cls, B.no _ (by decide), rfl, _, rfl, k, l, rfl, k1, k4, hb, fun hpos H2 D Ts s2 hDD eD zD => ⟨D, rfl, ⟨_, .inl (.inl eD)⟩, ?_⟩, fun hneg H2 s2 => q2 hneg _ (s1.trans s2)⟩
    have eG2 := s2 _ _ eG
    have nDG : D ≠ G := fun z => by
      rw [z, eG] at hDD
      cases hDD
    refine for_it (walk_list (K := K) (a := D) (xs := Ts.map V.ref)) (fun i σ H' => ∃ (y3 y4 : Option V), σ = [some (.ref b), some (.str (Tx l)), some (.ref G), y3, y4] ∧ SameX G H2 H' ∧ H' G = some (.lst ((((sureL k l).take i).foldl (fun m x => m.set x.1 x.2) l).map fun c => V.str (Tx [c]))))
      ⟨none, none, rfl, SameX.refl _ _, eG2⟩ (fun i σ H' _ hP => ?_) (fun i x σ H3 H4 hi hP hY => ?_) (fun σ H3 hP => ?_)
    · obtain ⟨_, _, _, s3, _⟩ := hP
      exact .inl (.inl (s3 _ _ nDG eD))
    · obtain ⟨y3, y4, rfl, s3, eG3⟩ := hP
      obtain ⟨rfl, hx⟩ := hY
      rw [List.length_map] at hi
      obtain ⟨T', hT'⟩ : ∃ T', Ts[i]? = some T' := ⟨Ts[i], by simp [hi]⟩
      rw [List.getElem?_map, hT'] at hx
      obtain rfl : V.ref T' = x := Option.some.inj hx
      obtain ⟨⟨p, c⟩, hpc, hR⟩ := zD.get hT'
      have hR2 : H2 T' = some (.tup [nI p, .str (Tx [c])]) := hR
      have eT4 := s3 _ _ (ne_of hR2 eG2 (by intro z; cases z)) hR2
      have hpl : p < l.length := sureL_lt (p, c) (List.mem_of_getElem? hpc)
      refine ⟨T', _, rfl, SqT.of eT4, rfl, _, _, rfl, _, _, rfl, rfl, ?_⟩
      refine ⟨_, rfl, _, rfl, _, rfl, G, _, _, p, rfl, rfl, eG3, ixN_n (by rw [List.length_map, fold_len]; exact hpl), ?_⟩
      refine ⟨_, _, rfl, s3.up, ?_⟩
      rw [upd_same, List.take_add_one, hpc, List.foldl_append]
      show _ = some (HO.lst (List.map _ (List.set _ p c)))
      rw [List.map_set]
    · obtain ⟨y3, y4, rfl, s3, eG3⟩ := hP
      have hln : (sureL k l).length = Ts.length := zD.len
      rw [List.length_map, ← hln, List.take_length] at eG3
      obtain ⟨m, hm⟩ : ∃ m, m = (sureL k l).foldl (fun m x => m.set x.1 x.2) l := ⟨_, rfl⟩
      have hml : m.length = l.length := by rw [hm, fold_len]
      rw [← hm] at eG3
      refine ⟨⟨_, rfl⟩, _, rfl, Tx [], G, m.map fun c => Tx [c], rfl, rfl, .inl (.inl (.inl (by rw [List.map_map]; exact eG3))), ?_, ?_⟩
      · have := len_ones (f := fun c => c) m
        rw [this, List.length_map]
        show m.length + m.length * 0 ≤ _
        omega
      · have := joinT_one (fun c => c) m
        rw [this, List.map_id']
        have h := q1 hpos H3 (((sameX (s1.trans s2)).trans s3).new hG)
        unfold sureRow at h
        rw [← hm] at h
        exact h
theorem num_ok {n : Nat} (h : n < 2 ^ 1900) : ((n : Nat) : Int).natAbs.log2 < 1920 := by
  rw [Int.natAbs_natCast]
  by_cases z : n = 0
  · rw [z]
    decide
  · have := (Nat.log2_lt z).mpr h
    omega
theorem wn_lt {k : Nat} (hk : k ≤ 4) {l : List Nat} (hl : l.length ≤ 40) : Wn k l < 2 ^ 1900 := by
  have h := Wd_le hk hl 0 l.length
  unfold Wd at h
  rw [sl_all] at h
  exact Nat.lt_of_lt_of_le h (Nat.pow_le_pow_right (by decide) (by decide))
theorem cB_le {g : Nat → Nat} {b : Nat} (h : ∀ c, g c ≤ b) (cs : List Nat) (c : Nat) : cB g cs c ≤ cs.length * b := by
  unfold cB
  have h1 : ∀ l : List Nat, (l.map g).sum ≤ l.length * b := fun l => by
    induction l with
    | nil => simp
    | cons a r ih =>
      rw [List.map_cons, List.sum_cons, List.length_cons, Nat.succ_mul]
      have := h a
      omega
  refine Nat.le_trans (h1 _) (Nat.mul_le_mul_right _ ?_)
  exact (List.takeWhile_sublist _).length_le
theorem nO_lt {k : Nat} (hk : k ≤ 4) {l : List Nat} (hl : l.length ≤ 40) {m : List Nat} (hm : m.length ≤ 40) : nO k l m < 2 ^ 1900 := by
  have h1 : nO k l m ≤ m.length * (8 * 2 ^ 100) := by
    unfold nO
    refine sumK_le fun p _ => ?_
    refine Nat.le_trans (cB_le (b := 2 ^ 100) (fun c => ?_) _ _) (Nat.mul_le_mul_right _ (by rw [kSet_len hk]; omega))
    exact Nat.le_trans wW_next (Nat.le_of_lt (Rn_lt hk hl _))
  have h2 : m.length * (8 * 2 ^ 100) ≤ 40 * (8 * 2 ^ 100) := Nat.mul_le_mul_right _ hm
  have h3 : (40 * (8 * 2 ^ 100) : Nat) < 2 ^ 120 := by decide +kernel
  exact Nat.lt_of_lt_of_le (Nat.lt_of_le_of_lt (Nat.le_trans h1 h2) h3) (Nat.pow_le_pow_right (by decide) (by decide))
theorem small_lt {n : Nat} (h : n ≤ 1000) : n < 2 ^ 1900 := by
  have h2 : (1000 : Nat) < 2 ^ 10 := by decide
  exact Nat.lt_of_lt_of_le (Nat.lt_of_le_of_lt h h2) (Nat.pow_le_pow_right (by decide) (by decide))
theorem chg_le (l : List Nat) (i b : Nat) : chg l i b ≤ 1 := by
  unfold chg
  split <;> omega
theorem bst_le {k : Nat} (h1 : 1 ≤ k) (l : List Nat) : ∀ n u i, u ≤ n → (bst k l u i).1 ≤ 2 * u
  | _, 0, i, _ => Nat.le_refl _
  | 0, u + 1, _, h => by omega
  | n + 1, u + 1, i, h => by
    rw [bst_succ]
    have hne : cands (bst k l) k l i u (u + 1) ≠ [] := fun z => by
      have := congrArg List.length z
      rw [cands_len] at this
      have h3 : 0 < (u + 1) * k := Nat.mul_pos (by omega) (by omega)
      have h4 : (u + 1) * k = 0 := this
      omega
    have hm := bestOf_in hne
    generalize bestOf (cands (bst k l) k l i u (u + 1)) = b at hm ⊢
    unfold cands at hm
    obtain ⟨t, ht, hm⟩ := List.mem_flatMap.mp hm
    obtain ⟨κ, hκ, rfl⟩ := List.mem_map.mp hm
    rw [List.mem_range] at ht
    have a1 := bst_le h1 l n t (i + 1) (by omega)
    have a2 := bst_le h1 l n (u - t) (i + 2 + 2 * t) (by omega)
    have c1 := chg_le l i (br (2 * κ))
    have c2 := chg_le l (i + 1 + 2 * t) (br (2 * κ + 1))
    show chg _ _ _ + chg _ _ _ + (bst k l t (i + 1)).1 + (bst k l (u - t) (i + 2 + 2 * t)).1 ≤ _
    omega
theorem tx_cat3 (a c : List Nat) (s : String) (b : List Nat) (hs : Str.ofString s = Tx b) : Tx a ++ Str.ofString s ++ Tx c = Tx (a ++ b ++ c) := by
  rw [hs, Tx_app, Tx_app]
def spCounted (K : PySem.W.Frag) (C : Addr) : Sp := fun vs H Q E => ∃ (b dx d L : Addr) (k : Nat) (kvs : List (L2.Key × V)) (u : List (List Nat)) (l : List Nat), vs = [.ref b, .ref L, .str (Tx l)] ∧ DeskAt H C b dx d k kvs ∧ H L = some (.lst (wV u)) ∧ 1 ≤ u.length ∧
  (u.getD 0 [] ≠ Wt "show" ∧ u.getD 0 [] ≠ Wt "right" ∧ u.getD 0 [] ≠ Wt "may" ∧ u.getD 0 [] ≠ Wt "nth" ∧ u.getD 0 [] ≠ Wt "sure") ∧ (u.getD 0 [] = Wt "number" → 3 ≤ u.length ∧ As (u.getD 2 []) ∧ (u.getD 2 []).length ≤ 10000) ∧ 1 ≤ k ∧ k ≤ 4 ∧ rowBy k l = true ∧
  Ans K H Q E (tellM k (u.getD 0 []) l (u.getD 2 []))
theorem sc_Desk_counted : FnScope ["self", "words", "row", "told", "more"] ["self", "words", "row"] (defScope s_Desk_counted) := ⟨rfl, rfl, rfl, by decide +kernel, rfl, by decide +kernel, by decide +kernel⟩
theorem ok_Desk_counted (T : Txt K mg) (B : DeskT K) (F : FunP K "counted" "Desk.counted" s_Desk_counted f fd) (g_how_many : Dk P w K mg base CX0 4 "how_many" ["k", "row"] spHowMany) (g_number_of : Dk P w K mg base (L2.CX P w) 6 "number_of" ["k", "row", "filling"] (spNumber (cA K "NotRight")))
    (g_fewest_changes : Dk P w K mg base CX0 4 "fewest_changes" ["k", "row"] spFewest) (g_fewest_more : Dk P w K mg base CX0 5 "fewest_more" ["k", "row"] spMore) (g_shown : Dk P w K mg base CX0 1 "shown" ["row"] spShown) :
    FnOk P w K mg base (L2.CX P w) 7 f fd ["self", "words", "row"] (spCounted K (cA K "Desk")) := by
  refine F.ok sc_Desk_counted (fun vs H Q E h => ?_) (fun cdv A outer s H vs Q E hr h => ?_)
  · obtain ⟨b, dx, d, L, k, kvs, u, l, rfl, _⟩ := h
    rfl
  · obtain ⟨b, dx, d, L, k, kvs, u, l, rfl, hD, eL, hu1, ⟨n1, n2, n3, n4, n5⟩, hnum, k1, k4, hb, q⟩ := h
    refine ⟨_, (pss_cons (ps_if (pt_cmpR op_eq (pe_ix (show IxR _ (rIxL K) from ix_list) (pv 1) pe_int (fun _ _ => rfl)) pe_str (nomark _))
        (pss_one (ps_ret (pe_callTy call_str_int (by rfl) T.b_str (by decide +kernel) (pa_cons (g_how_many.call hr pass0 (pa_cons (pe_fld (pv 0) rfl) (pa_cons (pv 2) pa_nil))) pa_nil))))
        pss_nil)
       (pss_cons (ps_if (pt_cmpR op_eq (pe_ix (show IxR _ (rIxL K) from ix_list) (pv 1) pe_int (fun _ _ => rfl)) pe_str (nomark _))
        (pss_one (ps_ret (pe_callTy call_str_int (by rfl) T.b_str (by decide +kernel) (pa_cons (g_number_of.call hr (passes_call (takes_of rfl rfl rfl rfl) (fun _ _ _ _ h => h)) (pa_cons (pe_fld (pv 0) rfl) (pa_cons (pv 2) (pa_cons (pe_ix (show IxR _ (rIxL K) from ix_list) (pv 1) pe_int (fun _ _ => rfl)) pa_nil)))) pa_nil))))
        pss_nil)
       (pss_cons (ps_if (pt_cmpR op_eq (pe_ix (show IxR _ (rIxL K) from ix_list) (pv 1) pe_int (fun _ _ => rfl)) pe_str (nomark _))
        (pss_cons (ps_set (i := 3) sc_Desk_counted.nd rfl (.inl rfl) (g_fewest_changes.call hr pass0 (pa_cons (pe_fld (pv 0) rfl) (pa_cons (pv 2) pa_nil))))
       (pss_one (ps_ret (pe_ifExp (pt_cmpR op_notN (pv 3) pe_non (nomark _)) (pe_op op_add_str (pe_op op_add_str (pe_callTy call_str_int (by rfl) T.b_str (by decide +kernel) (pa_cons (pe_ix ix_tup (pv 3) pe_int (fun _ _ => rfl)) pa_nil)) pe_str) (g_shown.call hr pass0 (pa_cons (pe_ix ix_tup (pv 3) pe_int (fun _ _ => rfl)) pa_nil))) pe_str))))
        pss_nil)
       (pss_cons (ps_set (i := 4) sc_Desk_counted.nd rfl (.inl rfl) (g_fewest_more.call hr pass0 (pa_cons (pe_fld (pv 0) rfl) (pa_cons (pv 2) pa_nil))))
       (pss_one (ps_ret (pe_ifExp (pt_cmpR op_notN (pv 4) pe_non (nomark _)) (pe_callTy call_str_int (by rfl) T.b_str (by decide +kernel) (pa_cons (pv 4) pa_nil)) pe_str))))))) , ?_⟩
    have hl := rowBy_len hb
    have eT : tellM k (u.getD 0 []) l (u.getD 2 []) = (if u.getD 0 [] = Wt "many" then .ok (numT (Wn k l))
        else if u.getD 0 [] = Wt "number" then (if isF k l (u.getD 2 []) = true then .ok (numT (nO k l (u.getD 2 []))) else .error 5)
        else if u.getD 0 [] = Wt "fewest" then (if l.length % 2 = 1 then .ok (Wt "none") else .ok (numT (bst k l (l.length / 2) 0).1 ++ [32] ++ shw ((bst k l (l.length / 2) 0).2.map br)))
        else .ok (moreT (dpt k l))) := by
      unfold tellM
      rw [if_neg n1, if_neg n2, if_neg n3, if_neg n4, if_neg n5]
    rw [eT] at q
    refine ⟨_, rfl, L, _, _, _, rfl, rfl, .inl (.inl eL), atI_nat (j := 0) (wV_at (by omega)), rfl, _, rfl, ?_⟩
    rw [tx_eqW]
    refine iteB (fun c1 => ?_) (fun c1 => ?_)
    · rw [if_pos (of_decide_eq_true c1)] at q
      refine ⟨_, rfl, b, _, dx, _, _, rfl, hD.eb, B.cls, B.no _ (by decide), rfl, _, rfl, k, l, rfl, k1, k4, (Sg.of hb).as, hb, fun H1 s1 => ⟨_, rfl, num_ok (wn_lt k4 hl), ?_⟩⟩
      rw [tx_num]
      exact q H1 s1
    · rw [if_neg (of_decide_eq_false c1)] at q
      refine ⟨_, rfl, L, _, _, _, rfl, rfl, .inl (.inl eL), atI_nat (j := 0) (wV_at (by omega)), rfl, _, rfl, ?_⟩
      rw [tx_eqW]
      refine iteB (fun c2 => ?_) (fun c2 => ?_)
      · rw [if_pos (of_decide_eq_true c2)] at q
        obtain ⟨m1, m2, m3⟩ := hnum (of_decide_eq_true c2)
        refine ⟨_, rfl, b, _, dx, _, _, rfl, hD.eb, B.cls, B.no _ (by decide), rfl, _, rfl, _, rfl, L, _, _, _, rfl, rfl, .inl (.inl eL), atI_nat (j := 2) (wV_at (by omega)), k, l, u.getD 2 [], rfl, k1, k4, hb, m2, m3, fun hF H1 s1 => ?_, fun hF H1 s1 => ?_⟩
        · rw [if_pos hF] at q
          refine ⟨_, rfl, num_ok ?_, ?_⟩
          · obtain ⟨f1, _, _⟩ := isF_sigs hF
            exact nO_lt k4 hl (by omega)
          · rw [tx_num]
            exact q H1 s1
        · rw [if_neg (by rw [hF]; decide)] at q
          exact q H1 s1
      · rw [if_neg (of_decide_eq_false c2)] at q
        refine ⟨_, rfl, L, _, _, _, rfl, rfl, .inl (.inl eL), atI_nat (j := 0) (wV_at (by omega)), rfl, _, rfl, ?_⟩
        rw [tx_eqW]
        refine iteB (fun c3 => ?_) (fun c3 => ?_)
        · rw [if_pos (of_decide_eq_true c3)] at q
          refine ⟨_, rfl, b, _, dx, _, _, rfl, hD.eb, B.cls, B.no _ (by decide), rfl, _, rfl, k, l, rfl, k1, k4, hb, fun ho H1 s1 => ?_, fun he H1 T1 s1 hT1 eT1 => ?_⟩
          · rw [if_pos ho] at q
            refine ⟨_, rfl, rfl, _, rfl, ?_⟩
            have := q H1 s1
            rw [tx_W] at this
            exact this
          · rw [if_neg (by omega)] at q
            refine ⟨_, rfl, rfl, _, rfl, ?_⟩
            have b1 := bst_le k1 l (l.length / 2) (l.length / 2) 0 (Nat.le_refl _)
            obtain ⟨z1, _⟩ := bst_ok k1 k4 l (l.length / 2) (l.length / 2) 0 (Nat.le_refl _)
            refine iteT ⟨_, rfl, T1, _, _, _, rfl, rfl, SqT.of eT1, atI_nat (j := 0) rfl, _, rfl, num_ok (small_lt (by omega)), ?_⟩
            rw [tx_num]
            have ln := numT_len (n := (bst k l (l.length / 2) 0).1) (k := 3) (by decide) (by show _ < 1000; omega)
            have z2 : ((bst k l (l.length / 2) 0).2.map br).length = 2 * (l.length / 2) := by rw [List.length_map, z1]
            have z3 : (shw ((bst k l (l.length / 2) 0).2.map br)).length ≤ 100 := by
              unfold shw
              split
              · decide
              · omega
            refine ⟨_, _, rfl, rfl, by rw [Tx_len]; exact sl_le (by show _ + 1 ≤ _; omega), ?_⟩
            refine ⟨_, rfl, T1, _, _, _, rfl, rfl, SqT.of eT1, atI_nat (j := 1) rfl, _, rfl, ?_⟩
            have e32 : (Tx (numT (bst k l (l.length / 2) 0).1) ++ Str.ofString " ") = Tx (numT (bst k l (l.length / 2) 0).1 ++ [32]) := by
              have e1 : Str.ofString " " = Tx [32] := rfl
              rw [e1, Tx_app]
            refine ⟨_, _, rfl, rfl, ?_, ?_⟩
            · rw [e32, Tx_len, Tx_len, List.length_append]
              exact sl_le (by show _ + 1 + _ ≤ _; omega)
            · rw [e32, Tx_app]
              exact q H1 s1
        · rw [if_neg (of_decide_eq_false c3)] at q
          refine ⟨_, rfl, b, _, dx, _, _, rfl, hD.eb, B.cls, B.no _ (by decide), rfl, _, rfl, k, l, rfl, k1, k4, hb, fun H1 s1 => ?_⟩
          cases ed : dpt k l with
          | nil =>
            refine ⟨_, rfl, rfl, _, rfl, ?_⟩
            rw [ed] at q
            have := q H1 s1
            unfold moreT at this
            rw [tx_W] at this
            exact this
          | cons m r =>
            refine ⟨_, rfl, rfl, _, rfl, ?_⟩
            rw [ed] at q
            have hm : m < l.length + 2 := by
              have : m ∈ dpt k l := by rw [ed]; exact List.mem_cons_self
              unfold dpt at this
              exact (upTo_mem.mp this).1
            have := q H1 s1
            unfold moreT at this
            refine iteT ⟨_, rfl, _, rfl, num_ok (small_lt (by omega)), ?_⟩
            rw [tx_num]
            exact this
end
end BR
set_option Elab.async false
set_option linter.all false
set_option maxRecDepth 100000
set_option maxHeartbeats 4000000
/-! D22: desk.py: deed -/
namespace BR
open PySem PySem.Spec PyProof.Rows L2
theorem int_num {w : List Nat} (h : numOk w = true) : intText? (Tx w) = some ((valT w : Nat) : Int) ∧ (Tx w).length ≤ 640 := by
  unfold numOk at h
  obtain ⟨h1, _⟩ := Bool.and_eq_true_iff.mp h
  obtain ⟨h2, h3⟩ := Bool.and_eq_true_iff.mp h1
  obtain ⟨h4, h5⟩ := Bool.and_eq_true_iff.mp h2
  have l1 := of_decide_eq_true h4
  have l2 := of_decide_eq_true h5
  have hd : ∀ c ∈ lFIG, (decide (48 ≤ c) && decide (c ≤ 57)) = true := by decide
  refine ⟨SX.int_S (a := w) (List.all_eq_true.mpr fun c hc => hd c (of_decide_eq_true (List.all_eq_true.mp h3 c hc))) (fun z => by rw [z] at l1; simp at l1) (by omega), by rw [Tx_len]; omega⟩
theorem row_kept {N : List (List Nat)} {k : Nat} {kvs : List (L2.Key × V)} (h : Kp N k kvs) {n r : List Nat} (e : rowOf kvs n = some r) : rowBy k r = true := by
  rcases h.row n with ⟨_, z⟩ | ⟨r', _, z, hb⟩
  · rw [e] at z
    cases z
  · rw [e] at z
    cases z
    exact hb
/-- what a deed does -/
def deedM (k : Nat) (kvs : List (L2.Key × V)) (u : List (List Nat)) : Except Nat (Nat × List (L2.Key × V)) :=
  if u.getD 0 [] = Wt "kinds" then .ok (valT (u.getD 1 []), [])
  else if u.getD 0 [] = Wt "row" then (if rowBy k (u.getD 2 []) = true then .ok (k, putK kvs (kN (u.getD 1 [])) (.str (Tx (u.getD 2 [])))) else .error 3)
  else if u.getD 0 [] = Wt "turn" then (match rowOf kvs (u.getD 2 []) with
    | none => .error 1
    | some r => .ok (k, putK kvs (kN (u.getD 1 [])) (.str (Tx (trn r)))))
  else if u.getD 0 [] = Wt "behind" then (match rowOf kvs (u.getD 2 []) with
    | none => .error 1
    | some r => match rowOf kvs (u.getD 3 []) with
      | none => .error 1
      | some r2 => if rowBy k (r ++ r2) = true then .ok (k, putK kvs (kN (u.getD 1 [])) (.str (Tx (r ++ r2)))) else .error 3)
  else (match rowOf kvs (u.getD 1 []) with
    | none => .error 1
    | some _ => .ok (k, dropK kvs (kN (u.getD 1 []))))
def DAns (K : PySem.W.Frag) (C b dx d : Addr) (H : Hp) (Q : VK) (E : XK) : Except Nat (Nat × List (L2.Key × V)) → Prop
  | .ok (k, kvs) => ∀ H' d', SameB b d H H' → DeskAt H' C b dx d' k kvs → (d' = d ∨ H d' = none) → Q (.str (Tx (Wt "ok"))) H'
  | .error e => ∀ H', Same H H' → E (.ref (exN K e)) none H'
/-- the words of a deed -/
structure DeedOk (N : List (List Nat)) (u : List (List Nat)) : Prop where
  as : ∀ w ∈ u, As w ∧ w.length ≤ 10000
  len : 2 ≤ u.length
  kinds : u.getD 0 [] = Wt "kinds" → numOk (u.getD 1 []) = true ∧ 1 ≤ valT (u.getD 1 []) ∧ valT (u.getD 1 []) ≤ 4
  three : u.getD 0 [] = Wt "row" ∨ u.getD 0 [] = Wt "turn" → 3 ≤ u.length
  four : u.getD 0 [] = Wt "behind" → 4 ≤ u.length
section
variable {P : Program} {w : World} {K : PySem.W.Frag} {mg : Str → Option Value} {base : Heap} {f : Addr} {fd : FuncData}
def spDeed (K : PySem.W.Frag) (C : Addr) : Sp := fun vs H Q E => ∃ (b dx d L : Addr) (k : Nat) (kvs : List (L2.Key × V)) (N u : List (List Nat)), vs = [.ref b, .ref L] ∧ DeskAt H C b dx d k kvs ∧ H L = some (.lst (wV u)) ∧ Kp N k kvs ∧ NmsOk N ∧ 1 ≤ k ∧ k ≤ 4 ∧ DeedOk N u ∧ DAns K C b dx d H Q E (deedM k kvs u)
theorem sc_Desk_deed : FnScope ["self", "words", "one"] ["self", "words"] (defScope s_Desk_deed) := ⟨rfl, rfl, rfl, by decide +kernel, rfl, by decide +kernel, by decide +kernel⟩
theorem ok_Desk_deed (T : Txt K mg) (B : DeskT K) (F : FunP K "deed" "Desk.deed" s_Desk_deed f fd) (g_need_kinds : Dk P w K mg base CX0 2 "need_kinds" ["k"] spNeedKinds) (g_turned : Dk P w K mg base CX0 4 "turned" ["k", "row"] spTurned)
    (g_Desk_row_by : Dm P w K mg base (L2.CX P w) 1 (cA K "Desk") "row_by" ["self", "name"] (spRowBy (cA K "Desk") (cA K "NoName"))) (g_Desk_put_in : Dm P w K mg base (L2.CX P w) 4 (cA K "Desk") "put_in" ["self", "name", "row"] (spPutIn (cA K "Desk") (cA K "NoLine"))) :
    FnOk P w K mg base (L2.CX P w) 5 f fd ["self", "words"] (spDeed K (cA K "Desk")) := by
  refine F.ok sc_Desk_deed (fun vs H Q E h => ?_) (fun cdv A outer s H vs Q E hr h => ?_)
  · obtain ⟨b, dx, d, L, k, kvs, N, u, rfl, _⟩ := h
    rfl
  · obtain ⟨b, dx, d, L, k, kvs, N, u, rfl, hD, eL, hK, hN, k1, k4, hU, q⟩ := h
    have hu := hu_of hr
    refine ⟨_, (pss_cons (ps_if (pt_cmpR op_eq (pe_ix (show IxR _ (rIxL K) from ix_list) (pv 1) pe_int (fun _ _ => rfl)) pe_str (nomark _))
        (pss_cons (ps_expr (g_need_kinds.call hr pass0 (pa_cons (pe_callTy call_int_str (by rfl) T.b_int (by decide +kernel) (pa_cons (pe_ix (show IxR _ (rIxL K) from ix_list) (pv 1) pe_int (fun _ _ => rfl)) pa_nil)) pa_nil)))
       (pss_cons (ps_fld (pv 0) (pe_callTy call_int_str (by rfl) T.b_int (by decide +kernel) (pa_cons (pe_ix (show IxR _ (rIxL K) from ix_list) (pv 1) pe_int (fun _ _ => rfl)) pa_nil)) rfl)
       (pss_one (ps_fld (pv 0) pe_dnewK rfl))))
        (pss_one (ps_if (pt_cmpR op_eq (pe_ix (show IxR _ (rIxL K) from ix_list) (pv 1) pe_int (fun _ _ => rfl)) pe_str (nomark _))
        (pss_one (ps_expr (g_Desk_put_in.meth hr (passes_call (takes_of rfl rfl rfl rfl) (fun _ _ _ _ h => h)) (pv 0) (pa_cons (pe_ix (show IxR _ (rIxL K) from ix_list) (pv 1) pe_int (fun _ _ => rfl)) (pa_cons (pe_ix (show IxR _ (rIxL K) from ix_list) (pv 1) pe_int (fun _ _ => rfl)) pa_nil)))))
        (pss_one (ps_if (pt_cmpR op_eq (pe_ix (show IxR _ (rIxL K) from ix_list) (pv 1) pe_int (fun _ _ => rfl)) pe_str (nomark _))
        (pss_one (ps_dput hu (pe_fld (pv 0) rfl) (pe_ix (show IxR _ (rIxL K) from ix_list) (pv 1) pe_int (fun _ _ => rfl)) (g_turned.call hr pass0 (pa_cons (pe_fld (pv 0) rfl) (pa_cons (g_Desk_row_by.meth hr (passes_call (takes_of rfl rfl rfl rfl) (fun _ _ _ _ h => h)) (pv 0) (pa_cons (pe_ix (show IxR _ (rIxL K) from ix_list) (pv 1) pe_int (fun _ _ => rfl)) pa_nil)) pa_nil))) rfl))
        (pss_one (ps_if (pt_cmpR op_eq (pe_ix (show IxR _ (rIxL K) from ix_list) (pv 1) pe_int (fun _ _ => rfl)) pe_str (nomark _))
        (pss_cons (ps_set (i := 2) sc_Desk_deed.nd rfl (.inl rfl) (g_Desk_row_by.meth hr (passes_call (takes_of rfl rfl rfl rfl) (fun _ _ _ _ h => h)) (pv 0) (pa_cons (pe_ix (show IxR _ (rIxL K) from ix_list) (pv 1) pe_int (fun _ _ => rfl)) pa_nil)))
       (pss_one (ps_expr (g_Desk_put_in.meth hr (passes_call (takes_of rfl rfl rfl rfl) (fun _ _ _ _ h => h)) (pv 0) (pa_cons (pe_ix (show IxR _ (rIxL K) from ix_list) (pv 1) pe_int (fun _ _ => rfl)) (pa_cons (pe_op op_add_str (pv 2) (g_Desk_row_by.meth hr (passes_call (takes_of rfl rfl rfl rfl) (fun _ _ _ _ h => h)) (pv 0) (pa_cons (pe_ix (show IxR _ (rIxL K) from ix_list) (pv 1) pe_int (fun _ _ => rfl)) pa_nil))) pa_nil))))))
        (pss_cons (ps_expr (g_Desk_row_by.meth hr (passes_call (takes_of rfl rfl rfl rfl) (fun _ _ _ _ h => h)) (pv 0) (pa_cons (pe_ix (show IxR _ (rIxL K) from ix_list) (pv 1) pe_int (fun _ _ => rfl)) pa_nil)))
       (pss_one (ps_expr (pe_dpop1 (pe_fld (pv 0) rfl) (pe_ix (show IxR _ (rIxL K) from ix_list) (pv 1) pe_int (fun _ _ => rfl)) ⟨rfl, rfl, rfl, rfl⟩)))))))))))
       (pss_one (ps_ret pe_str))) , ?_⟩
    have hlen := hU.len
    have hkl := hK.len hN
    have nbd : b ≠ d := ne_of hD.eb hD.ed (by intro z; cases z)
    have nLb : L ≠ b := ne_of eL hD.eb (by intro z; cases z)
    have nLd : L ≠ d := ne_of eL hD.ed (by intro z; cases z)
    have okT : ∀ {H' : Hp}, Q (.str (Tx (Wt "ok"))) H' → Q (.str (Str.ofString "ok")) H' := fun h => by
      rw [tx_W] at h
      exact h
    refine ⟨_, rfl, L, _, _, _, rfl, rfl, .inl (.inl eL), atI_nat (j := 0) (wV_at (by omega)), rfl, _, rfl, ?_⟩
    rw [tx_eqW]
    unfold deedM at q
    refine iteB (fun c1 => ?_) (fun c1 => ?_)
    · -- kinds
      have c1' := of_decide_eq_true c1
      rw [if_pos c1'] at q
      obtain ⟨n1, n2, n3⟩ := hU.kinds c1'
      obtain ⟨i1, i2⟩ := int_num n1
      refine ⟨_, rfl, L, _, _, _, rfl, rfl, .inl (.inl eL), atI_nat (j := 1) (wV_at (by omega)), _, _, rfl, i1, i2, valT (u.getD 1 []), rfl, n2, n3, ?_⟩
      refine ⟨_, rfl, L, _, _, _, rfl, rfl, .inl (.inl eL), atI_nat (j := 1) (wV_at (by omega)), _, _, rfl, i1, i2, _, rfl, b, _, dx, _, rfl, hD.eb, B.cls, B.no _ (by decide), (show (2 : Nat) < 1000 by decide), ?_⟩
      refine fun d2 hd2 => ?_
      have nb2 : b ≠ d2 := ne_of_none upd_same hd2
      refine ⟨_, rfl, b, _, dx, _, rfl, (upd_ne nb2).trans upd_same, B.cls, B.no _ (by decide), (show (2 : Nat) < 1000 by decide), ?_⟩
      have hHd2 : H d2 = none := by
        rw [upd_ne nb2.symm] at hd2
        exact hd2
      refine okT (q _ d2 (fun x o hxb hxd e => ?_) ⟨upd_same, (upd_ne nb2.symm).trans upd_same⟩ (.inr hHd2))
      rw [upd_ne hxb, upd_ne (ne_of_none e hHd2), upd_ne hxb]
      exact e
    · rw [if_neg (of_decide_eq_false c1)] at q
      refine ⟨_, rfl, L, _, _, _, rfl, rfl, .inl (.inl eL), atI_nat (j := 0) (wV_at (by omega)), rfl, _, rfl, ?_⟩
      rw [tx_eqW]
      refine iteB (fun c2 => ?_) (fun c2 => ?_)
      · -- row
        have c2' := of_decide_eq_true c2
        rw [if_pos c2'] at q
        have h3 := hU.three (.inl c2')
        have m2 := hU.as _ (getD_mem (ws := u) (i := 2) (by omega))
        refine ⟨_, rfl, b, dx, _, rfl, hD.eb, rfl, _, rfl, L, _, _, _, rfl, rfl, .inl (.inl eL), atI_nat (j := 1) (wV_at (by omega)), _, rfl, L, _, _, _, rfl, rfl, .inl (.inl eL), atI_nat (j := 2) (wV_at (by omega)), b, dx, d, k, kvs, N, u.getD 1 [], u.getD 2 [], rfl, hD, by omega, k1, k4, m2.1, m2.2, fun hrow H1 s1 hD1 => ?_, fun hrow H1 s1 => ?_⟩
        · rw [if_pos hrow] at q
          exact okT (q _ d (fun x o _ hxd e => s1 x o hxd e) hD1 (.inl rfl))
        · rw [if_neg (by rw [hrow]; decide)] at q
          exact q _ s1
      · rw [if_neg (of_decide_eq_false c2)] at q
        refine ⟨_, rfl, L, _, _, _, rfl, rfl, .inl (.inl eL), atI_nat (j := 0) (wV_at (by omega)), rfl, _, rfl, ?_⟩
        rw [tx_eqW]
        refine iteB (fun c3 => ?_) (fun c3 => ?_)
        · -- turn
          have c3' := of_decide_eq_true c3
          rw [if_pos c3'] at q
          have h3 := hU.three (.inr c3')
          refine ⟨_, rfl, b, _, dx, _, _, rfl, hD.eb, B.cls, B.no _ (by decide), rfl, _, rfl, b, dx, _, rfl, hD.eb, rfl, _, rfl, L, _, _, _, rfl, rfl, .inl (.inl eL), atI_nat (j := 2) (wV_at (by omega)), b, dx, d, k, kvs, N, u.getD 2 [], rfl, hD, hK, fun r hr2 => ?_, fun hr2 H1 s1 => ?_⟩
          · rw [hr2] at q
            have hrow : rowBy k r = true := by
              rcases hK.row (u.getD 2 []) with ⟨_, e⟩ | ⟨r', _, e, hb⟩
              · rw [hr2] at e
                cases e
              · rw [hr2] at e
                cases e
                exact hb
            refine ⟨k, r, rfl, k1, k4, hrow, fun H1 s1 => ?_⟩
            have hD1 := hD.same s1
            have eL1 := s1 _ _ eL
            refine ⟨_, rfl, b, _, dx, _, _, rfl, hD1.eb, B.cls, B.no _ (by decide), rfl, _, rfl, L, _, _, _, rfl, rfl, .inl (.inl eL1), atI_nat (j := 1) (wV_at (by omega)), d, _, rfl, DPut.k (k := kN (u.getD 1 [])) hD1.ed (sl_lt (by omega)), ?_⟩
            refine okT (q _ d (fun x o _ hxd e => ?_) ⟨(upd_ne nbd).trans hD1.eb, upd_same⟩ (.inl rfl))
            rw [upd_ne hxd]
            exact s1 _ _ e
          · rw [hr2] at q
            exact q _ s1
        · rw [if_neg (of_decide_eq_false c3)] at q
          refine ⟨_, rfl, L, _, _, _, rfl, rfl, .inl (.inl eL), atI_nat (j := 0) (wV_at (by omega)), rfl, _, rfl, ?_⟩
          rw [tx_eqW]
          refine iteB (fun c4 => ?_) (fun c4 => ?_)
          · -- behind
            have c4' := of_decide_eq_true c4
            rw [if_pos c4'] at q
            have h4 := hU.four c4'
            refine ⟨_, rfl, b, dx, _, rfl, hD.eb, rfl, _, rfl, L, _, _, _, rfl, rfl, .inl (.inl eL), atI_nat (j := 2) (wV_at (by omega)), b, dx, d, k, kvs, N, u.getD 2 [], rfl, hD, hK, fun r hr2 => ?_, fun hr2 H1 s1 => ?_⟩
            · have hb1 := row_kept hK hr2
              rw [hr2] at q
              refine ⟨_, rfl, b, dx, _, rfl, hD.eb, rfl, _, rfl, L, _, _, _, rfl, rfl, .inl (.inl eL), atI_nat (j := 1) (wV_at (by omega)), _, rfl, _, rfl, b, dx, _, rfl, hD.eb, rfl, _, rfl, L, _, _, _, rfl, rfl, .inl (.inl eL), atI_nat (j := 3) (wV_at (by omega)), b, dx, d, k, kvs, N, u.getD 3 [], rfl, hD, hK, fun r2 hr3 => ?_, fun hr3 H1 s1 => ?_⟩
              · have hb2 := row_kept hK hr3
                simp only [hr3] at q
                have l1 := rowBy_len hb1
                have l2 := rowBy_len hb2
                refine ⟨Tx r, Tx r2, rfl, rfl, by rw [Tx_len, Tx_len]; exact sl_le (by omega), ?_⟩
                rw [Tx_app]
                refine ⟨b, dx, d, k, kvs, N, u.getD 1 [], r ++ r2, rfl, hD, by omega, k1, k4, fun c hc => ?_, by rw [List.length_append]; omega, fun hrow H1 s1 hD1 => ?_, fun hrow H1 s1 => ?_⟩
                · rcases List.mem_append.mp hc with z | z
                  · exact (Sg.of hb1).as c z
                  · exact (Sg.of hb2).as c z
                · rw [if_pos hrow] at q
                  exact okT (q _ d (fun x o _ hxd e => s1 x o hxd e) hD1 (.inl rfl))
                · rw [if_neg (by rw [hrow]; decide)] at q
                  exact q _ s1
              · simp only [hr3] at q
                exact q _ s1
            · rw [hr2] at q
              exact q _ s1
          · -- drop
            rw [if_neg (of_decide_eq_false c4)] at q
            refine ⟨_, rfl, b, dx, _, rfl, hD.eb, rfl, _, rfl, L, _, _, _, rfl, rfl, .inl (.inl eL), atI_nat (j := 1) (wV_at (by omega)), b, dx, d, k, kvs, N, u.getD 1 [], rfl, hD, hK, fun r hr2 => ?_, fun hr2 H1 s1 => ?_⟩
            · rw [hr2] at q
              have hv : valV kvs (kN (u.getD 1 [])) = some (.str (Tx r)) := by
                rcases hK.row (u.getD 1 []) with ⟨_, e⟩ | ⟨r', e0, e, _⟩
                · rw [hr2] at e
                  cases e
                · rw [hr2] at e
                  cases e
                  exact e0
              refine ⟨_, rfl, b, _, dx, _, _, rfl, hD.eb, B.cls, B.no _ (by decide), rfl, d, rfl, .inl ⟨_, .inl hD.ed⟩, _, rfl, L, _, _, _, rfl, rfl, .inl (.inl eL), atI_nat (j := 1) (wV_at (by omega)), kvs, kN (u.getD 1 []), _, hD.ed, rfl, hv, ?_⟩
              refine okT (q _ d (fun x o _ hxd e => ?_) ⟨(upd_ne nbd).trans hD.eb, upd_same⟩ (.inl rfl))
              rw [upd_ne hxd]
              exact e
            · rw [hr2] at q
              exact q _ s1
end
end BR
set_option Elab.async false
set_option linter.all false
set_option maxRecDepth 100000
set_option maxHeartbeats 4000000
/-! D23: desk.py: asked, say -/
namespace BR
open PySem PySem.Spec PyProof.Rows L2
/-- what is told of a row -/
def askM (k : Nat) (kvs : List (L2.Key × V)) (u : List (List Nat)) : Except Nat (List Nat) :=
  match rowOf kvs (u.getD 1 []) with
  | none => .error 1
  | some r => if u.getD 0 [] = Wt "number" ∧ rowBy k (u.getD 2 []) = false then .error 3 else tellM k (u.getD 0 []) r (u.getD 2 [])
/-- the words of a question -/
structure AskOk (u : List (List Nat)) : Prop where
  as : ∀ w ∈ u, As w ∧ w.length ≤ 10000
  len : 2 ≤ u.length
  three : u.getD 0 [] = Wt "number" ∨ u.getD 0 [] = Wt "nth" → 3 ≤ u.length
  num : u.getD 0 [] = Wt "nth" → numOk (u.getD 2 []) = true
section
variable {P : Program} {w : World} {K : PySem.W.Frag} {mg : Str → Option Value} {base : Heap} {f : Addr} {fd : FuncData}
def spAsked (K : PySem.W.Frag) (C : Addr) : Sp := fun vs H Q E => ∃ (b dx d L : Addr) (k : Nat) (kvs : List (L2.Key × V)) (N u : List (List Nat)), vs = [.ref b, .ref L] ∧ DeskAt H C b dx d k kvs ∧ H L = some (.lst (wV u)) ∧ Kp N k kvs ∧ 1 ≤ k ∧ k ≤ 4 ∧ AskOk u ∧ Ans K H Q E (askM k kvs u)
theorem sc_Desk_asked : FnScope ["self", "words", "row"] ["self", "words"] (defScope s_Desk_asked) := ⟨rfl, rfl, rfl, by decide +kernel, rfl, by decide +kernel, by decide +kernel⟩
theorem ok_Desk_asked (T : Txt K mg) (B : DeskT K) (F : FunP K "asked" "Desk.asked" s_Desk_asked f fd) (g_is_line : Dk P w K mg base CX0 3 "is_line" ["k", "thing"] spIsLine) (g_is_right : Dk P w K mg base CX0 4 "is_right" ["k", "row"] spIsRight)
    (g_may_go_on : Dk P w K mg base CX0 5 "may_go_on" ["k", "row"] spMayGo) (g_nth_filling : Dk P w K mg base (L2.CX P w) 6 "nth_filling" ["k", "row", "i"] (spNth (cA K "NoNumber"))) (g_shown : Dk P w K mg base CX0 1 "shown" ["row"] spShown)
    (g_Desk_row_by : Dm P w K mg base (L2.CX P w) 1 (cA K "Desk") "row_by" ["self", "name"] (spRowBy (cA K "Desk") (cA K "NoName"))) (g_Desk_sure_row : Dm P w K mg base (L2.CX P w) 6 (cA K "Desk") "sure_row" ["self", "row"] (spSureRow (cA K "Desk") (cA K "NoFilling")))
    (g_Desk_counted : Dm P w K mg base (L2.CX P w) 7 (cA K "Desk") "counted" ["self", "words", "row"] (spCounted K (cA K "Desk"))) :
    FnOk P w K mg base (L2.CX P w) 8 f fd ["self", "words"] (spAsked K (cA K "Desk")) := by
  refine F.ok sc_Desk_asked (fun vs H Q E h => ?_) (fun cdv A outer s H vs Q E hr h => ?_)
  · obtain ⟨b, dx, d, L, k, kvs, N, u, rfl, _⟩ := h
    rfl
  · obtain ⟨b, dx, d, L, k, kvs, N, u, rfl, hD, eL, hK, k1, k4, hU, q⟩ := h
    have hu := hu_of hr
    refine ⟨_, (pss_cons (ps_set (i := 2) sc_Desk_asked.nd rfl (.inl rfl) (g_Desk_row_by.meth hr (passes_call (takes_of rfl rfl rfl rfl) (fun _ _ _ _ h => h)) (pv 0) (pa_cons (pe_ix (show IxR _ (rIxL K) from ix_list) (pv 1) pe_int (fun _ _ => rfl)) pa_nil)))
       (pss_cons (ps_if (PW.pt (pw_and (pt_cmpR op_eq (pe_ix (show IxR _ (rIxL K) from ix_list) (pv 1) pe_int (fun _ _ => rfl)) pe_str (nomark _)) (pw_and1 (pt_not (pt_val (g_is_line.call hr pass0 (pa_cons (pe_fld (pv 0) rfl) (pa_cons (pe_ix (show IxR _ (rIxL K) from ix_list) (pv 1) pe_int (fun _ _ => rfl)) pa_nil))))))))
        (pss_one (ps_raise rfl (takes_of rfl rfl rfl rfl) (T.x_NoLine.mk')))
        pss_nil)
       (pss_cons (ps_if (pt_cmpR op_eq (pe_ix (show IxR _ (rIxL K) from ix_list) (pv 1) pe_int (fun _ _ => rfl)) pe_str (nomark _))
        (pss_one (ps_ret (g_shown.call hr pass0 (pa_cons (pv 2) pa_nil))))
        pss_nil)
       (pss_cons (ps_if (pt_cmpR op_eq (pe_ix (show IxR _ (rIxL K) from ix_list) (pv 1) pe_int (fun _ _ => rfl)) pe_str (nomark _))
        (pss_one (ps_ret (pe_ifExp (pt_val (g_is_right.call hr pass0 (pa_cons (pe_fld (pv 0) rfl) (pa_cons (pv 2) pa_nil)))) pe_str pe_str)))
        pss_nil)
       (pss_cons (ps_if (pt_cmpR op_eq (pe_ix (show IxR _ (rIxL K) from ix_list) (pv 1) pe_int (fun _ _ => rfl)) pe_str (nomark _))
        (pss_one (ps_ret (pe_ifExp (pt_val (g_may_go_on.call hr pass0 (pa_cons (pe_fld (pv 0) rfl) (pa_cons (pv 2) pa_nil)))) pe_str pe_str)))
        pss_nil)
       (pss_cons (ps_if (pt_cmpR op_eq (pe_ix (show IxR _ (rIxL K) from ix_list) (pv 1) pe_int (fun _ _ => rfl)) pe_str (nomark _))
        (pss_one (ps_ret (g_shown.call hr pass0 (pa_cons (g_nth_filling.call hr (passes_call (takes_of rfl rfl rfl rfl) (fun _ _ _ _ h => h)) (pa_cons (pe_fld (pv 0) rfl) (pa_cons (pv 2) (pa_cons (pe_callTy call_int_str (by rfl) T.b_int (by decide +kernel) (pa_cons (pe_ix (show IxR _ (rIxL K) from ix_list) (pv 1) pe_int (fun _ _ => rfl)) pa_nil)) pa_nil)))) pa_nil))))
        pss_nil)
       (pss_cons (ps_if (pt_cmpR op_eq (pe_ix (show IxR _ (rIxL K) from ix_list) (pv 1) pe_int (fun _ _ => rfl)) pe_str (nomark _))
        (pss_one (ps_ret (g_shown.call hr pass0 (pa_cons (g_Desk_sure_row.meth hr (passes_call (takes_of rfl rfl rfl rfl) (fun _ _ _ _ h => h)) (pv 0) (pa_cons (pv 2) pa_nil)) pa_nil))))
        pss_nil)
       (pss_one (ps_ret (g_Desk_counted.meth hr (passes_call (takes_of rfl rfl rfl rfl) (fun _ _ _ _ h => h)) (pv 0) (pa_cons (pv 1) (pa_cons (pv 2) pa_nil)))))))))))) , ?_⟩
    have hlen := hU.len
    refine ⟨_, rfl, b, dx, _, rfl, hD.eb, rfl, _, rfl, L, _, _, _, rfl, rfl, .inl (.inl eL), atI_nat (j := 1) (wV_at (by omega)), b, dx, d, k, kvs, N, u.getD 1 [], rfl, hD, hK, fun r hr1 => ?_, fun hr1 H1 s1 => ?_⟩
    · have hb := row_kept hK hr1
      have hl := rowBy_len hb
      unfold askM at q
      rw [hr1] at q
      simp only at q
      have srf : Same H H := fun x o e => e
      have yn : ∀ (c : Bool) (y z : String) {H' : Hp}, Q (.str (Tx (if c = true then Wt y else Wt z))) H' → Q (.str (Str.ofString (if c = true then y else z))) H' := fun c y z H' h => by
        cases c
        · rw [if_neg (by decide)] at h ⊢
          rwa [tx_W] at h
        · rw [if_pos rfl] at h ⊢
          rwa [tx_W] at h
      refine ⟨_, rfl, L, _, _, _, rfl, rfl, .inl (.inl eL), atI_nat (j := 0) (wV_at (by omega)), rfl, _, rfl, ?_⟩
      rw [tx_eqW]
      refine iteB (fun c0 => ?_) (fun c0 => ?_)
      · -- number
        have c0' := of_decide_eq_true c0
        have h3 := hU.three (.inl c0')
        have m2 := hU.as _ (getD_mem (ws := u) (i := 2) (by omega))
        refine ⟨_, rfl, b, _, dx, _, _, rfl, hD.eb, B.cls, B.no _ (by decide), rfl, _, rfl, L, _, _, _, rfl, rfl, .inl (.inl eL), atI_nat (j := 2) (wV_at (by omega)), k, u.getD 2 [], rfl, k1, k4, m2.1, m2.2, fun H1 s1 => ⟨_, rfl, ?_⟩⟩
        cases hrow : rowBy k (u.getD 2 []) with
        | false =>
          rw [if_pos ⟨c0', hrow⟩] at q
          exact iteT (q _ s1)
        | true =>
          rw [if_neg (fun z => by rw [hrow] at z; cases z.2)] at q
          have hD1 := hD.same s1
          have eL1 := s1 _ _ eL
          refine iteF ?_
          refine ⟨_, rfl, L, _, _, _, rfl, rfl, .inl (.inl eL1), atI_nat (j := 0) (wV_at (by omega)), rfl, _, rfl, ?_⟩
          rw [tx_eqW]
          refine iteB (fun z => absurd ((of_decide_eq_true z).symm.trans c0') (by decide)) (fun n_show => ?_)
          refine ⟨_, rfl, L, _, _, _, rfl, rfl, .inl (.inl eL1), atI_nat (j := 0) (wV_at (by omega)), rfl, _, rfl, ?_⟩
          rw [tx_eqW]
          refine iteB (fun z => absurd ((of_decide_eq_true z).symm.trans c0') (by decide)) (fun n_right => ?_)
          refine ⟨_, rfl, L, _, _, _, rfl, rfl, .inl (.inl eL1), atI_nat (j := 0) (wV_at (by omega)), rfl, _, rfl, ?_⟩
          rw [tx_eqW]
          refine iteB (fun z => absurd ((of_decide_eq_true z).symm.trans c0') (by decide)) (fun n_may => ?_)
          refine ⟨_, rfl, L, _, _, _, rfl, rfl, .inl (.inl eL1), atI_nat (j := 0) (wV_at (by omega)), rfl, _, rfl, ?_⟩
          rw [tx_eqW]
          refine iteB (fun z => absurd ((of_decide_eq_true z).symm.trans c0') (by decide)) (fun n_nth => ?_)
          refine ⟨_, rfl, L, _, _, _, rfl, rfl, .inl (.inl eL1), atI_nat (j := 0) (wV_at (by omega)), rfl, _, rfl, ?_⟩
          rw [tx_eqW]
          refine iteB (fun z => absurd ((of_decide_eq_true z).symm.trans c0') (by decide)) (fun n_sure => ?_)
          exact ⟨_, rfl, b, dx, _, rfl, hD1.eb, rfl, _, rfl, _, rfl, b, dx, d, L, k, kvs, u, r, rfl, hD1, eL1, by omega, ⟨of_decide_eq_false n_show, of_decide_eq_false n_right, of_decide_eq_false n_may, of_decide_eq_false n_nth, of_decide_eq_false n_sure⟩, fun _ => ⟨h3, m2.1, m2.2⟩, k1, k4, hb, q.same s1⟩
      · have c0' := of_decide_eq_false c0
        rw [if_neg (fun z => c0' z.1)] at q
        unfold tellM at q
        refine ⟨_, rfl, L, _, _, _, rfl, rfl, .inl (.inl eL), atI_nat (j := 0) (wV_at (by omega)), rfl, _, rfl, ?_⟩
        rw [tx_eqW]
        refine iteB (fun c_show => ?_) (fun c_show => ?_)
        · rw [if_pos (of_decide_eq_true c_show)] at q
          refine ⟨_, rfl, r, rfl, q _ srf⟩
        · rw [if_neg (of_decide_eq_false c_show)] at q
          refine ⟨_, rfl, L, _, _, _, rfl, rfl, .inl (.inl eL), atI_nat (j := 0) (wV_at (by omega)), rfl, _, rfl, ?_⟩
          rw [tx_eqW]
          refine iteB (fun c_right => ?_) (fun c_right => ?_)
          · rw [if_pos (of_decide_eq_true c_right)] at q
            refine ⟨_, rfl, b, _, dx, _, _, rfl, hD.eb, B.cls, B.no _ (by decide), rfl, _, rfl, k, r, rfl, k1, k4, hb, fun H1 s1 => ⟨_, rfl, ?_⟩⟩
            have y := q _ s1
            cases cr : isR r with
            | false =>
              rw [cr, if_neg (by decide), tx_W] at y
              exact iteF y
            | true =>
              rw [cr, if_pos rfl, tx_W] at y
              exact iteT y
          · rw [if_neg (of_decide_eq_false c_right)] at q
            refine ⟨_, rfl, L, _, _, _, rfl, rfl, .inl (.inl eL), atI_nat (j := 0) (wV_at (by omega)), rfl, _, rfl, ?_⟩
            rw [tx_eqW]
            refine iteB (fun c_may => ?_) (fun c_may => ?_)
            · rw [if_pos (of_decide_eq_true c_may)] at q
              refine ⟨_, rfl, b, _, dx, _, _, rfl, hD.eb, B.cls, B.no _ (by decide), rfl, _, rfl, k, r, rfl, k1, k4, hb, fun H1 s1 => ⟨_, rfl, ?_⟩⟩
              have y := q _ s1
              cases cr : (dpt k r).isEmpty with
              | true =>
                rw [cr, if_pos rfl, tx_W] at y
                exact iteF y
              | false =>
                rw [cr, if_neg (by decide), tx_W] at y
                exact iteT y
            · rw [if_neg (of_decide_eq_false c_may)] at q
              refine ⟨_, rfl, L, _, _, _, rfl, rfl, .inl (.inl eL), atI_nat (j := 0) (wV_at (by omega)), rfl, _, rfl, ?_⟩
              rw [tx_eqW]
              refine iteB (fun c_nth => ?_) (fun c_nth => ?_)
              · rw [if_pos (of_decide_eq_true c_nth)] at q
                have h3 := hU.three (.inr (of_decide_eq_true c_nth))
                obtain ⟨i1, i2⟩ := int_num (hU.num (of_decide_eq_true c_nth))
                refine ⟨_, rfl, b, _, dx, _, _, rfl, hD.eb, B.cls, B.no _ (by decide), rfl, _, rfl, _, rfl, L, _, _, _, rfl, rfl, .inl (.inl eL), atI_nat (j := 2) (wV_at (by omega)), _, _, rfl, i1, i2, k, r, valT (u.getD 2 []), rfl, k1, k4, hb, fun hi H1 s1 => ?_, fun hi H1 s1 => ?_⟩
                · rw [if_pos hi] at q
                  exact ⟨_, rfl, q _ s1⟩
                · rw [if_neg hi] at q
                  exact q _ s1
              · rw [if_neg (of_decide_eq_false c_nth)] at q
                refine ⟨_, rfl, L, _, _, _, rfl, rfl, .inl (.inl eL), atI_nat (j := 0) (wV_at (by omega)), rfl, _, rfl, ?_⟩
                rw [tx_eqW]
                refine iteB (fun c_sure => ?_) (fun c_sure => ?_)
                · rw [if_pos (of_decide_eq_true c_sure)] at q
                  refine ⟨_, rfl, b, dx, _, rfl, hD.eb, rfl, _, rfl, b, dx, d, k, kvs, r, rfl, hD, k1, k4, hb, fun hi H1 s1 => ?_, fun hi H1 s1 => ?_⟩
                  · rw [if_pos hi] at q
                    exact ⟨_, rfl, q _ s1⟩
                  · rw [if_neg hi] at q
                    exact q _ s1
                · rw [if_neg (of_decide_eq_false c_sure)] at q
                  refine ⟨_, rfl, b, dx, _, rfl, hD.eb, rfl, _, rfl, _, rfl, b, dx, d, L, k, kvs, u, r, rfl, hD, eL, by omega, ⟨of_decide_eq_false c_show, of_decide_eq_false c_right, of_decide_eq_false c_may, of_decide_eq_false c_nth, of_decide_eq_false c_sure⟩, fun z => absurd z c0', k1, k4, hb, ?_⟩
                  unfold tellM
                  rw [if_neg (of_decide_eq_false c_show), if_neg (of_decide_eq_false c_right), if_neg (of_decide_eq_false c_may), if_neg (of_decide_eq_false c_nth), if_neg (of_decide_eq_false c_sure)]
                  exact q
    · unfold askM at q
      rw [hr1] at q
      exact q _ s1
end
end BR
set_option Elab.async false
set_option linter.all false
set_option maxRecDepth 100000
set_option maxHeartbeats 4000000
/-! D24: desk.py: say -/
namespace BR
open PySem PySem.Spec PyProof.Rows L2
/-! ### say -/
def isDeed (w : List Nat) : Bool := decide (w = Wt "kinds") || decide (w = Wt "row") || decide (w = Wt "turn") || decide (w = Wt "behind") || decide (w = Wt "drop")
def sayM (k : Nat) (kvs : List (L2.Key × V)) (ws : List (List Nat)) : Except Nat (Str × Nat × List (L2.Key × V)) :=
  match prt ws with
  | none => .error 0
  | some u =>
    if u.getD 0 [] = Wt "names" then .ok (if kvs.isEmpty then Str.ofString "none" else Txt.join (Str.ofString " ") (nmS kvs), k, kvs)
    else if isDeed (u.getD 0 []) = true then (match deedM k kvs u with
      | .ok (k', kvs') => .ok (Str.ofString "ok", k', kvs')
      | .error e => .error e)
    else match askM k kvs u with
      | .ok t => .ok (Tx t, k, kvs)
      | .error e => .error e
def SAns (K : PySem.W.Frag) (C b dx d : Addr) (H : Hp) (Q : VK) (E : XK) : Except Nat (Str × Nat × List (L2.Key × V)) → Prop
  | .ok (t, k, kvs) => ∀ H' d', SameB b d H H' → DeskAt H' C b dx d' k kvs → (d' = d ∨ H d' = none) → Q (.str t) H'
  | .error e => ∀ H', Same H H' → E (.ref (exN K e)) none H'
/-- an order -/
structure OrdOk (ws : List (List Nat)) : Prop where
  ok : WsOk ws
  kinds : ws.getD 0 [] = Wt "kinds" → 1 ≤ valT (ws.getD 1 []) ∧ valT (ws.getD 1 []) ≤ 4
structure PrtOk (ws u : List (List Nat)) : Prop where
  as : ∀ w ∈ u, As w ∧ w.length ≤ 10000
  head : u.getD 0 [] = ws.getD 0 []
  one : u.getD 1 [] = ws.getD 1 []
  len : u.length = if isWR (u.getD 0 []) = true then 3 else (formOf (u.getD 0 [])).length + 1
  num : ∀ i, isWR (u.getD 0 []) = false → (formOf (u.getD 0 [])).getD i 0 = 105 → numOk (u.getD (i + 1) []) = true
theorem as_joinL : ∀ ws : List (List Nat), (∀ w ∈ ws, As w) → As (TL.joinL [32] ws)
  | [], _ => fun c hc => by cases hc
  | [a], h => h a List.mem_cons_self
  | a :: b :: r, h => by
    have h1 := h a List.mem_cons_self
    have h2 := as_joinL (b :: r) fun w hw => h w (List.mem_cons_of_mem _ hw)
    show As (a ++ ([32] ++ TL.joinL [32] (b :: r)))
    intro c hc
    rcases List.mem_append.mp hc with z | z
    · exact h1 c z
    rcases List.mem_append.mp z with z | z
    · rw [List.mem_singleton.mp z]
      decide
    · exact h2 c z
theorem prt_ok {ws u : List (List Nat)} (hw : WsOk ws) (h : prt ws = some u) : PrtOk ws u := by
  have hwl := hw.len
  unfold prt at h
  split at h
  · rename_i c
    split at h
    · cases h
    · rename_i c2
      have hu := (Option.some.inj h).symm
      subst hu
      have c3 : 3 ≤ ws.length := Nat.le_of_not_lt fun z => c2 (.inl z)
      have hd : ∀ w ∈ ws.drop 2, w ∈ ws := fun w z => List.mem_of_mem_drop z
      have hl := joinL_len (ws.drop 2) fun w z => (hw.each w (hd w z)).2.2
      rw [List.length_drop] at hl
      refine ⟨fun w hm => ?_, rfl, rfl, ?_, fun i z => ?_⟩
      · rcases List.mem_cons.mp hm with e | hm
        · have := hw.each w (by rw [e]; exact getD_mem (by omega))
          exact ⟨this.2.1, by omega⟩
        rcases List.mem_cons.mp hm with e | hm
        · have := hw.each w (by rw [e]; exact getD_mem (by omega))
          exact ⟨this.2.1, by omega⟩
        · rw [List.mem_singleton.mp hm]
          exact ⟨as_joinL _ fun w z => (hw.each w (hd w z)).2.1, by omega⟩
      · rw [if_pos (show isWR ([ws.getD 0 [], ws.getD 1 [], TL.joinL [32] (ws.drop 2)].getD 0 []) = true from c)]
        rfl
      · rw [show isWR ([ws.getD 0 [], ws.getD 1 [], TL.joinL [32] (ws.drop 2)].getD 0 []) = true from c] at z
        cases z
  · rename_i c
    split at h
    · cases h
    · rename_i c2
      split at h
      · rename_i c3
        have hu := Option.some.inj h
        subst hu
        refine ⟨fun w hm => ⟨(hw.each w hm).2.1, by have := (hw.each w hm).2.2; omega⟩, rfl, rfl, ?_, fun i _ z => ?_⟩
        · rw [if_neg c]
          exact Classical.not_not.mp c2
        · have hi : i < (formOf (ws.getD 0 [])).length := Nat.lt_of_not_le fun y => by
            rw [List.getD_eq_getElem?_getD, List.getElem?_eq_none y] at z
            cases z
          have := List.all_eq_true.mp c3 i (List.mem_range.mpr hi)
          rw [z] at this
          unfold okKW at this
          cases e : numOk (ws.getD (i + 1) []) with
          | true => rfl
          | false =>
            rw [e] at this
            simp at this
      · cases h
theorem nmS_len {N : List (List Nat)} {k : Nat} {kvs : List (L2.Key × V)} (h : Kp N k kvs) (hN : NmsOk N) : (nmS kvs).length ≤ 20 ∧ ∀ z ∈ nmS kvs, z.length ≤ 8 := by
  obtain ⟨S, hS, hs⟩ := h.keys
  obtain ⟨ms, m1, m2, m3⟩ := hS.keysS
  have hl := h.len hN
  have hml : ms.length = kvs.length := by
    have := congrArg List.length m1
    simpa using this.symm
  have hp := nmS_perm kvs
  rw [m2] at hp
  refine ⟨?_, fun z hz => ?_⟩
  · rw [hp.length_eq, List.length_map]
    omega
  · obtain ⟨m, hm, rfl⟩ := List.mem_map.mp (hp.mem_iff.mp hz)
    have := hN.nm m (hs m ((m3 m).mp hm))
    unfold nmOk at this
    obtain ⟨h1, _⟩ := Bool.and_eq_true_iff.mp this
    obtain ⟨_, h3⟩ := Bool.and_eq_true_iff.mp h1
    rw [Tx_len]
    exact of_decide_eq_true h3
theorem sum_le {m : Nat} : ∀ l : List Str, (∀ z ∈ l, z.length ≤ m) → (l.map (·.length)).sum ≤ m * l.length
  | [], _ => Nat.zero_le _
  | a :: r, h => by
    have h1 := h a List.mem_cons_self
    have h2 := sum_le r fun z hz => h z (List.mem_cons_of_mem _ hz)
    rw [List.map_cons, List.sum_cons, List.length_cons, Nat.mul_succ]
    omega
theorem inV_deeds {l : List Nat} : (if false = true then !inV (V.str (Tx l)) [V.str (Str.ofString "kinds"), V.str (Str.ofString "row"), V.str (Str.ofString "turn"), V.str (Str.ofString "behind"), V.str (Str.ofString "drop")] else inV (V.str (Tx l)) [V.str (Str.ofString "kinds"), V.str (Str.ofString "row"), V.str (Str.ofString "turn"), V.str (Str.ofString "behind"), V.str (Str.ofString "drop")]) = isDeed l := by
  rw [if_neg (by decide)]
  show ((eqV (V.str (Str.ofString "kinds")) (V.str (Tx l))) || ((eqV (V.str (Str.ofString "row")) (V.str (Tx l))) || ((eqV (V.str (Str.ofString "turn")) (V.str (Tx l))) || ((eqV (V.str (Str.ofString "behind")) (V.str (Tx l))) || ((eqV (V.str (Str.ofString "drop")) (V.str (Tx l))) || false))))) = _
  rw [eqV_W, eqV_W, eqV_W, eqV_W, eqV_W, Bool.or_false]
  unfold isDeed
  rw [Bool.or_assoc, Bool.or_assoc, Bool.or_assoc]
section
variable {P : Program} {w : World} {K : PySem.W.Frag} {mg : Str → Option Value} {base : Heap} {f : Addr} {fd : FuncData}
def spSay (K : PySem.W.Frag) (C : Addr) : Sp := fun vs H Q E => ∃ (b dx d : Addr) (k : Nat) (kvs : List (L2.Key × V)) (N ws : List (List Nat)), vs = [.ref b, .str (Tx (TL.joinL [32] ws))] ∧ DeskAt H C b dx d k kvs ∧ Kp N k kvs ∧ NmsOk N ∧ 1 ≤ k ∧ k ≤ 4 ∧ OrdOk ws ∧ SAns K C b dx d H Q E (sayM k kvs ws)
theorem sc_Desk_say : FnScope ["self", "row", "words"] ["self", "row"] (defScope s_Desk_say) := ⟨rfl, rfl, rfl, by decide +kernel, rfl, by decide +kernel, by decide +kernel⟩
theorem ok_Desk_say (T : Txt K mg) (B : DeskT K) (F : FunP K "say" "Desk.say" s_Desk_say f fd) (g_parted : Dk P w K mg base (L2.CX P w) 2 "parted" ["row"] (spParted (cA K "NoRow"))) (g_Desk_names : Dm P w K mg base CX0 1 (cA K "Desk") "names" ["self"] (spDNames (cA K "Desk")))
    (g_Desk_deed : Dm P w K mg base (L2.CX P w) 5 (cA K "Desk") "deed" ["self", "words"] (spDeed K (cA K "Desk"))) (g_Desk_asked : Dm P w K mg base (L2.CX P w) 8 (cA K "Desk") "asked" ["self", "words"] (spAsked K (cA K "Desk"))) :
    FnOk P w K mg base (L2.CX P w) 9 f fd ["self", "row"] (spSay K (cA K "Desk")) := by
  refine F.ok sc_Desk_say (fun vs H Q E h => ?_) (fun cdv A outer s H vs Q E hr h => ?_)
  · obtain ⟨b, dx, d, k, kvs, N, ws, rfl, _⟩ := h
    rfl
  · obtain ⟨b, dx, d, k, kvs, N, ws, rfl, hD, hK, hN, k1, k4, hO, q⟩ := h
    have hu := hu_of hr
    refine ⟨_, (pss_cons (ps_set (i := 2) sc_Desk_say.nd rfl (.inl rfl) (g_parted.call hr (passes_call (takes_of rfl rfl rfl rfl) (fun _ _ _ _ h => h)) (pa_cons (pv 1) pa_nil)))
       (pss_cons (ps_if (pt_cmpR op_eq (pe_ix (show IxR _ (rIxL K) from ix_list) (pv 2) pe_int (fun _ _ => rfl)) pe_str (nomark _))
        (pss_one (ps_ret (pe_ifExp (pt_cmpR (op_neDict0 hr) (pe_fld (pv 0) rfl) pe_dnewK (nomark _)) (pe_join pe_str (g_Desk_names.meth0 hr pass0 (pv 0))) pe_str)))
        pss_nil)
       (pss_cons (ps_if (pt_cmpR op_in_seq (pe_ix (show IxR _ (rIxL K) from ix_list) (pv 2) pe_int (fun _ _ => rfl)) (pe_tup (pa_cons pe_str (pa_cons pe_str (pa_cons pe_str (pa_cons pe_str (pa_cons pe_str pa_nil)))))) rfl)
        (pss_one (ps_ret (g_Desk_deed.meth hr (passes_call (takes_of rfl rfl rfl rfl) (fun _ _ _ _ h => h)) (pv 0) (pa_cons (pv 2) pa_nil))))
        pss_nil)
       (pss_one (ps_ret (g_Desk_asked.meth hr (passes_call (takes_of rfl rfl rfl rfl) (fun _ _ _ _ h => h)) (pv 0) (pa_cons (pv 2) pa_nil))))))) , ?_⟩
    unfold sayM at q
    refine ⟨_, rfl, ws, rfl, hO.ok, fun u hp H1 L s1 hL eL => ?_, fun hp H1 s1 => ?_⟩
    · rw [hp] at q
      simp only at q
      have p := prt_ok hO.ok hp
      have hlen : 1 ≤ u.length := by
        rw [p.len]
        split <;> omega
      have hD1 := hD.same s1
      refine ⟨_, rfl, L, _, _, _, rfl, rfl, .inl (.inl eL), atI_nat (j := 0) (wV_at (by omega)), rfl, _, rfl, ?_⟩
      rw [tx_eqW]
      refine iteB (fun c1 => ?_) (fun c1 => ?_)
      · rw [if_pos (of_decide_eq_true c1)] at q
        refine ⟨_, rfl, b, _, dx, _, _, rfl, hD1.eb, B.cls, B.no _ (by decide), rfl, ?_⟩
        refine fun p2 hp2 => ?_
        have s2 := same_upd (o := .dK []) hp2
        have e2 : (upd H1 p2 (.dK [])) p2 = some (.dK []) := upd_same
        generalize upd H1 p2 (.dK []) = H2 at s2 e2 ⊢
        have hD2 := hD1.same s2
        have sb : ∀ {H' : Hp}, Same H2 H' → SameB b d H H' := fun s3 => sameB (s1.trans (s2.trans s3))
        have srf : Same H2 H2 := fun x o e => e
        refine ⟨d, p2, kvs, rfl, rfl, hD2.ed, e2, _, rfl, ?_⟩
        cases ek : kvs.isEmpty with
        | true =>
          rw [ek, if_pos rfl] at q
          exact q H2 d (sb srf) hD2 (.inl rfl)
        | false =>
          rw [ek, if_neg (by decide)] at q
          obtain ⟨n1, n2⟩ := nmS_len hK hN
          have n3 := sum_le (nmS kvs) n2
          have n4 : (Str.ofString " ").length = 1 := rfl
          refine ⟨⟨_, rfl⟩, _, rfl, b, dx, _, rfl, hD2.eb, rfl, b, dx, d, k, kvs, N, rfl, hD2, hK, hN, fun H3 D3 s3 hD3 eD3 => ?_⟩
          refine ⟨_, D3, nmS kvs, rfl, rfl, .inl (.inl (.inl eD3)), by rw [n4]; omega, ?_⟩
          exact q H3 d (sb s3) (hD2.same s3) (.inl rfl)
      · rw [if_neg (of_decide_eq_false c1)] at q
        refine ⟨_, rfl, L, _, _, _, rfl, rfl, .inl (.inl eL), atI_nat (j := 0) (wV_at (by omega)), ?_⟩
        refine ⟨by show 5 ≤ sizeLine; decide, fun T2 hT2 => ?_⟩
        have s2 := same_upd (o := .tup [V.str (Str.ofString "kinds"), V.str (Str.ofString "row"), V.str (Str.ofString "turn"), V.str (Str.ofString "behind"), V.str (Str.ofString "drop")]) hT2
        have e2 : (upd H1 T2 (.tup [V.str (Str.ofString "kinds"), V.str (Str.ofString "row"), V.str (Str.ofString "turn"), V.str (Str.ofString "behind"), V.str (Str.ofString "drop")])) T2 = some (.tup [V.str (Str.ofString "kinds"), V.str (Str.ofString "row"), V.str (Str.ofString "turn"), V.str (Str.ofString "behind"), V.str (Str.ofString "drop")]) := upd_same
        refine ⟨_, _, rfl, .inr (SqT.of e2), rfl, rfl, _, rfl, ?_⟩
        rw [inV_deeds]
        change Same H1 (upd H1 T2 (.tup [V.str (Str.ofString "kinds"), V.str (Str.ofString "row"), V.str (Str.ofString "turn"), V.str (Str.ofString "behind"), V.str (Str.ofString "drop")])) at s2
        generalize upd H1 T2 (.tup [V.str (Str.ofString "kinds"), V.str (Str.ofString "row"), V.str (Str.ofString "turn"), V.str (Str.ofString "behind"), V.str (Str.ofString "drop")]) = H2 at s2 e2 ⊢
        have hD2 := hD1.same s2
        have eL2 := s2 _ _ eL
        have s02 : Same H H2 := s1.trans s2
        have back : ∀ {d' : Addr}, H2 d' = none → H d' = none := fun {d'} z => by
          cases y : H d' with
          | none => rfl
          | some o => rw [s02 _ _ y] at z; cases z
        refine iteB (fun c2 => ?_) (fun c2 => ?_)
        · rw [if_pos c2] at q
          refine ⟨_, rfl, b, dx, _, rfl, hD2.eb, rfl, _, rfl, b, dx, d, L, k, kvs, N, u, rfl, hD2, eL2, hK, hN, k1, k4, ⟨p.as, ?_, fun z => ?_, fun z => ?_, fun z => ?_⟩, ?_⟩
          · rw [p.len]
            unfold isDeed at c2
            simp only [Bool.or_eq_true, decide_eq_true_iff] at c2
            rcases c2 with (((z | z) | z) | z) | z <;> rw [z] <;> decide
          · refine ⟨p.num 0 ?_ ?_, ?_⟩
            · rw [z]; decide
            · rw [z]; decide
            · rw [p.one]
              exact hO.kinds (p.head ▸ z)
          · rw [p.len]
            rcases z with z | z <;> rw [z] <;> decide
          · rw [p.len, z]
            decide
          · cases hm : deedM k kvs u with
            | ok kv =>
              obtain ⟨k', kvs'⟩ := kv
              rw [hm] at q
              intro H' d' sb hd' hor
              rw [tx_W]
              exact q H' d' (fun x o hxb hxd e => sb x o hxb hxd (s02 _ _ e)) hd' (hor.imp id back)
            | error e =>
              rw [hm] at q
              exact fun H' s' => q H' (s02.trans s')
        · rw [if_neg (by rw [c2]; decide)] at q
          refine ⟨_, rfl, b, dx, _, rfl, hD2.eb, rfl, _, rfl, b, dx, d, L, k, kvs, N, u, rfl, hD2, eL2, hK, k1, k4, ⟨p.as, ?_, fun z => ?_, fun z => ?_⟩, ?_⟩
          · have hn : u.getD 0 [] ≠ Wt "names" := of_decide_eq_false c1
            have hh := hO.ok.head
            rw [← p.head] at hh
            rw [p.len]
            split
            · decide
            · rename_i nw
              rcases hh with hh | ⟨pr, hm, he⟩
              · exact absurd hh nw
              · have ha : ∀ pr ∈ lFORMS, pr.1 ≠ Wt "names" → 1 ≤ (formOf pr.1).length := by decide
                have := ha pr hm (by rw [he]; exact hn)
                rw [he] at this
                omega
          · rw [p.len]
            rcases z with z | z <;> rw [z] <;> decide
          · refine p.num 1 ?_ ?_
            · rw [z]; decide
            · rw [z]; decide
          · cases hm : askM k kvs u with
            | ok t =>
              rw [hm] at q
              exact fun H' s' => q H' d (sameB (s02.trans s')) (hD2.same s') (.inl rfl)
            | error e =>
              rw [hm] at q
              exact fun H' s' => q H' (s02.trans s')
    · rw [hp] at q
      exact q _ s1
end
end BR
set_option Elab.async false
set_option linter.all false
set_option maxRecDepth 100000
set_option maxHeartbeats 4000000
/-! L1: the law's helpers: pool, draw, signs, is_line, shown -/
namespace BR
open PySem PySem.Spec PyProof.Rows L2
/-- a pool of numbers to draw from -/
def PoolAt (H : Hp) (p : Addr) : Prop := ∃ a b c : Int, H p = some (.lst [.int a, .int b, .int c])
theorem PoolAt.same {H H' : Hp} {p : Addr} (h : PoolAt H p) (s : Same H H') : PoolAt H' p := by
  obtain ⟨a, b, c, e⟩ := h
  exact ⟨a, b, c, s _ _ e⟩
section
variable {P : Program} {w : World} {K : PySem.W.Frag} {mg : Str → Option Value} {base : Heap} {f : Addr} {fd : FuncData}
def spPool (K : PySem.W.Frag) : Sp := fun vs H Q _ => ∃ (S : Addr) (is : List Int) (k : Nat), vs = [.ref S, nI k] ∧ SqL K H S (is.map V.int) ∧ ∀ H' p, Same H H' → H p = none → PoolAt H' p → Q (.ref p) H'
theorem sc__law_pool : FnScope ["script", "k", "cell"] ["script", "k"] (defScope s__law_pool) := ⟨rfl, rfl, rfl, by decide +kernel, rfl, by decide +kernel, by decide +kernel⟩
theorem ok__law_pool (T : Txt K mg) (F : FunP K "_law_pool" "_law_pool" s__law_pool f fd) : FnOk P w K mg base CX0 1 f fd ["script", "k"] (spPool K) := by
  refine F.ok sc__law_pool (fun vs H Q E h => ?_) (fun cdv A outer s H vs Q E hr h => ?_)
  · obtain ⟨S, is, k, rfl, _⟩ := h
    rfl
  · obtain ⟨S, is, k, rfl, hS, q⟩ := h
    have hu := hu_of hr
    refine ⟨_, PSs.nox (pss_cons (ps_set (i := 2) sc__law_pool.nd rfl (.inl rfl) pe_int)
       (pss_cons (ps_if (pt_cmpR op_lt (pv 1) (pe_callB call_len_seq (by rfl) T.b_len (by decide +kernel) (pa_cons (pv 0) pa_nil)) (nomark _))
        (pss_one (ps_set (i := 2) sc__law_pool.nd rfl (.inl rfl) (pe_ix (show IxR _ (rIxL K) from ix_list) (pv 0) (pv 1) (fun _ _ => rfl))))
        pss_nil)
       (pss_one (ps_ret (pe_lst (pa_cons (pv 2) (pa_cons (pe_callTy call_int1 (by rfl) T.b_int (by decide +kernel) (pa_cons (pe_cmpR op_ge (pv 2) (pe_op op_pow pe_int pe_int) (nomark _)) pa_nil)) (pa_cons (pe_op op_mul pe_int (pv 1)) pa_nil)))))))) , ?_⟩
    refine ⟨_, rfl, _, rfl, S, _, rfl, .inl hS, _, _, rfl, rfl, _, rfl, ?_⟩
    rw [List.length_map]
    refine iteB (fun c => ?_) (fun c => ?_)
    · have hk : k < is.length := by
        have := of_decide_eq_true c
        omega
      refine ⟨_, rfl, _, rfl, S, is.map V.int, _, V.int is[k], rfl, rfl, hS, atI_nat (j := k) (by rw [List.getElem?_map, List.getElem?_eq_getElem hk]; rfl), ?_⟩
      refine ⟨_, rfl, _, rfl, _, _, rfl, rfl, ⟨by decide, by decide, by decide⟩, _, _, rfl, rfl, .inr ⟨_, rfl, _, rfl, _, _, rfl, rfl, .inl ⟨by decide, by decide⟩, ?_⟩⟩
      exact ⟨by show 3 ≤ sizeLine; decide, fun p hp => q _ p (same_upd hp) hp ⟨_, _, _, upd_same⟩⟩
    · refine ⟨_, rfl, _, rfl, _, _, rfl, rfl, ⟨by decide, by decide, by decide⟩, _, _, rfl, rfl, .inr ⟨_, rfl, _, rfl, _, _, rfl, rfl, .inl ⟨by decide, by decide⟩, ?_⟩⟩
      exact ⟨by show 3 ≤ sizeLine; decide, fun p hp => q _ p (same_upd hp) hp ⟨_, _, _, upd_same⟩⟩
def spDraw : Sp := fun vs H Q _ => ∃ (p : Addr) (m : Nat), vs = [.ref p, nI m] ∧ 1 ≤ m ∧ m < 2 ^ 1901 ∧ PoolAt H p ∧ ∀ (r : Nat) H', r < m → SameX p H H' → PoolAt H' p → Q (nI r) H'
theorem sc__law_draw : FnScope ["pool", "many", "found", "x"] ["pool", "many"] (defScope s__law_draw) := ⟨rfl, rfl, rfl, by decide +kernel, rfl, by decide +kernel, by decide +kernel⟩
theorem ok__law_draw (T : Txt K mg) (F : FunP K "_law_draw" "_law_draw" s__law_draw f fd) : FnOk P w K mg base CX0 1 f fd ["pool", "many"] spDraw := by
  refine F.ok sc__law_draw (fun vs H Q E h => ?_) (fun cdv A outer s H vs Q E hr h => ?_)
  · obtain ⟨p, m, rfl, _⟩ := h
    rfl
  · obtain ⟨p, m, rfl, m1, m2, ⟨a, b, c, eP⟩, q⟩ := h
    refine ⟨_, PSs.nox (pss_cons (ps_if (pt_cmpR op_eq (pe_ix (show IxR _ (rIxL K) from ix_list) (pv 0) pe_int (fun _ _ => rfl)) pe_int (nomark _))
        (pss_cons (ps_set (i := 2) sc__law_draw.nd rfl (.inl rfl) (pe_op op_mod (pe_ix (show IxR _ (rIxL K) from ix_list) (pv 0) pe_int (fun _ _ => rfl)) (pv 1)))
       (pss_cons (ps_asg (pe_op op_fdivW (pe_ix (show IxR _ (rIxL K) from ix_list) (pv 0) pe_int (fun _ _ => rfl)) (pv 1)) (pg_sub (pv 0) pe_int set_list))
       (pss_one (ps_ret (pv 2)))))
        pss_nil)
       (pss_cons (ps_asg (pe_op op_add (pe_ix (show IxR _ (rIxL K) from ix_list) (pv 0) pe_int (fun _ _ => rfl)) pe_int) (pg_sub (pv 0) pe_int set_list))
       (pss_cons (ps_set (i := 3) sc__law_draw.nd rfl (.inl rfl) (pe_op op_mod (pe_op op_add (pe_op op_mod (pe_ix (show IxR _ (rIxL K) from ix_list) (pv 0) pe_int (fun _ _ => rfl)) pe_int) (pe_op op_mul pe_int (pe_ix (show IxR _ (rIxL K) from ix_list) (pv 0) pe_int (fun _ _ => rfl)))) pe_int))
       (pss_cons (ps_set (i := 3) sc__law_draw.nd rfl (.inl rfl) (pe_op op_mod (pe_op op_mul (pv 3) (pv 3)) pe_int))
       (pss_cons (ps_set (i := 3) sc__law_draw.nd rfl (.inl rfl) (pe_op op_mod (pe_op op_mul (pe_op op_add (pv 3) pe_int) (pv 3)) pe_int))
       (pss_one (ps_ret (pe_op op_mod (pe_op op_fdiv (pv 3) pe_int) (pv 1))))))))) , ?_⟩
    have hm0 : (0 : Int) < (m : Int) := by omega
    have res : ∀ (z : Int), ∃ r : Nat, r < m ∧ z % (m : Int) = (r : Int) := fun z => by
      have h1 := Int.emod_nonneg z (Int.ne_of_gt hm0)
      have h2 := Int.emod_lt_of_pos z hm0
      exact ⟨(z % (m : Int)).toNat, by omega, by omega⟩
    refine ⟨_, rfl, p, _, _, _, rfl, rfl, .inl (.inl eP), atI_nat (j := 1) rfl, rfl, _, rfl, ?_⟩
    refine iteB (fun c1 => ?_) (fun c1 => ?_)
    · refine ⟨_, rfl, p, _, _, _, rfl, rfl, .inl (.inl eP), atI_nat (j := 0) rfl, _, rfl, _, _, rfl, rfl, hm0, ?_⟩
      obtain ⟨r, r1, r2⟩ := res a
      refine ⟨_, rfl, p, _, _, _, rfl, rfl, .inl (.inl eP), atI_nat (j := 0) rfl, _, rfl, _, _, rfl, rfl, wide_div (b := 1901) hm0 (by rw [Int.natAbs_natCast]; exact m2) (by decide) (by decide), _, rfl, p, _, _, 0, rfl, rfl, eP, rfl, _, rfl, ?_⟩
      show Q (V.int (a % (m : Int))) _
      rw [r2]
      exact q r _ r1 (fun x o hx e => by rw [upd_ne hx]; exact e) ⟨_, _, _, upd_same⟩
    · refine ⟨_, rfl, p, _, _, _, rfl, rfl, .inl (.inl eP), atI_nat (j := 2) rfl, ?_⟩
      refine ⟨_, _, rfl, rfl, _, rfl, p, _, _, 2, rfl, rfl, eP, rfl, ?_⟩
      have e1 : (upd H p (.lst ([V.int a, V.int b, V.int c].set 2 (V.int (c + 1))))) p = some (.lst [V.int a, V.int b, V.int (c + 1)]) := upd_same
      have s1 : SameX p H (upd H p (.lst ([V.int a, V.int b, V.int c].set 2 (V.int (c + 1))))) := fun x o hx e => by rw [upd_ne hx]; exact e
      generalize upd H p (.lst ([V.int a, V.int b, V.int c].set 2 (V.int (c + 1)))) = H1 at e1 s1 ⊢
      refine ⟨_, rfl, p, _, _, _, rfl, rfl, .inl (.inl e1), atI_nat (j := 0) rfl, _, _, rfl, rfl, by show (0 : Int) < 999999999989; decide, ?_⟩
      refine ⟨_, rfl, p, _, _, _, rfl, rfl, .inl (.inl e1), atI_nat (j := 2) rfl, _, _, rfl, rfl, .inl ⟨by decide, by decide⟩, _, _, rfl, rfl, _, _, rfl, rfl, by show (0 : Int) < 999999999989; decide, ?_⟩
      have b1 : ∀ z y : Int, 0 < y → y ≤ 1000000000039 → 0 ≤ z % y ∧ z % y < 1000000000039 := fun z y hy hy2 => ⟨Int.emod_nonneg z (Int.ne_of_gt hy), Int.lt_of_lt_of_le (Int.emod_lt_of_pos z hy) hy2⟩
      have b2 := b1 (a % 999999999989 + 350003 * (c + 1)) 999999999989 (by decide) (by decide)
      show gName 3 (V.int ((a % 999999999989 + 350003 * (c + 1)) % 999999999989)) _ _ _
      generalize (a % 999999999989 + 350003 * (c + 1)) % 999999999989 = X1 at b2 ⊢
      refine ⟨_, rfl, _, rfl, _, _, rfl, rfl, .inl ⟨by omega, by omega⟩, _, _, rfl, rfl, by show (0 : Int) < 1000000000039; decide, ?_⟩
      have b3 := b1 (X1 * X1) 1000000000039 (by decide) (by decide)
      show gName 3 (V.int (X1 * X1 % 1000000000039)) _ _ _
      generalize X1 * X1 % 1000000000039 = X2 at b3 ⊢
      refine ⟨_, rfl, _, _, rfl, rfl, _, rfl, _, _, rfl, rfl, .inl ⟨by omega, by omega⟩, _, _, rfl, rfl, by show (0 : Int) < 999999999961; decide, ?_⟩
      show gName 3 (V.int ((X2 + 810013) * X2 % 999999999961)) _ _ _
      generalize (X2 + 810013) * X2 % 999999999961 = X3
      refine ⟨_, rfl, _, _, rfl, rfl, ⟨by decide, by decide⟩, _, rfl, _, _, rfl, rfl, hm0, ?_⟩
      obtain ⟨r, r1, r2⟩ := res (X3 / 7)
      show Q (V.int (X3 / 7 % (m : Int))) _
      rw [r2]
      exact q r _ r1 s1 ⟨_, _, _, e1⟩

/-- the law's own list of signs -/
def kSgn (k : Nat) : List Nat := [40, 91, 123, 60].take k ++ [41, 93, 125, 62].take k
theorem kSgn_mem {k : Nat} (hk : k ≤ 4) (c : Nat) : c ∈ kSgn k ↔ c ∈ kSet k := by
  have h1 : ∀ k, k ≤ 4 → (∀ c ∈ kSgn k, c ∈ kSet k) ∧ ∀ c ∈ kSet k, c ∈ kSgn k := by decide
  exact ⟨(h1 k hk).1 c, (h1 k hk).2 c⟩
theorem kSgn_len {k : Nat} (hk : k ≤ 4) : (kSgn k).length = 2 * k := by
  have h1 : ∀ k, k ≤ 4 → (kSgn k).length = 2 * k := by decide
  exact h1 k hk
def spSigns : Sp := fun vs H Q _ => ∃ k : Nat, vs = [nI k] ∧ k ≤ 4 ∧ Q (.str (Tx (kSgn k))) H
theorem sc__law_signs : FnScope ["k"] ["k"] (defScope s__law_signs) := ⟨rfl, rfl, rfl, by decide +kernel, rfl, by decide +kernel, by decide +kernel⟩
theorem ok__law_signs (T : Txt K mg) (F : FunP K "_law_signs" "_law_signs" s__law_signs f fd) : FnOk P w K mg base CX0 1 f fd ["k"] spSigns := by
  refine F.ok sc__law_signs (fun vs H Q E h => ?_) (fun cdv A outer s H vs Q E hr h => ?_)
  · obtain ⟨k, rfl, _⟩ := h
    rfl
  · obtain ⟨k, rfl, hk, q⟩ := h
    refine ⟨_, PSs.nox (pss_one (ps_ret (pe_op op_add_str (pe_slice sl_str pe_str po_none (po_some (pv 0))) (pe_slice sl_str pe_str po_none (po_some (pv 0)))))) , ?_⟩
    have e1 := cutS_to [40, 91, 123, 60] k
    have e2 := cutS_to [41, 93, 125, 62] k
    have ln := kSgn_len hk
    unfold kSgn at ln q
    rw [List.length_append] at ln
    refine ⟨_, rfl, _, rfl, _, rfl, by decide, _, rfl, _, rfl, _, rfl, by decide, _, _, rfl, rfl, ?_, ?_⟩
    · show (cutS (Tx [40, 91, 123, 60]) none (some (k : Int))).length + (cutS (Tx [41, 93, 125, 62]) none (some (k : Int))).length ≤ _
      rw [e1, e2, Tx_len, Tx_len]
      exact sl_le (by omega)
    · show Q (.str (cutS (Tx [40, 91, 123, 60]) none (some (k : Int)) ++ cutS (Tx [41, 93, 125, 62]) none (some (k : Int)))) _
      rw [e1, e2, Tx_app]
      exact q
def spLShown : Sp := fun vs H Q _ => ∃ l : List Nat, vs = [.str (Tx l)] ∧ Q (.str (Tx (shw l))) H
theorem sc__law_shown : FnScope ["row"] ["row"] (defScope s__law_shown) := ⟨rfl, rfl, rfl, by decide +kernel, rfl, by decide +kernel, by decide +kernel⟩
theorem ok__law_shown (T : Txt K mg) (F : FunP K "_law_shown" "_law_shown" s__law_shown f fd) : FnOk P w K mg base CX0 1 f fd ["row"] spLShown := by
  refine F.ok sc__law_shown (fun vs H Q E h => ?_) (fun cdv A outer s H vs Q E hr h => ?_)
  · obtain ⟨l, rfl, _⟩ := h
    rfl
  · obtain ⟨l, rfl, q⟩ := h
    refine ⟨_, PSs.nox (pss_one (ps_ret (pe_ifExp (pt_cmpR op_ne (pv 0) pe_str (nomark _)) (pv 0) pe_str))) , ?_⟩
    refine ⟨_, rfl, rfl, _, rfl, ?_⟩
    have e : (!decide (V.str (Tx l) = V.str (Str.ofString ""))) = !decide (l = []) := congrArg (! ·) tx_empty
    rw [e]
    unfold shw at q
    by_cases z : l = []
    · rw [if_pos z] at q
      rw [decide_eq_true z]
      exact q
    · rw [if_neg z] at q
      rw [decide_eq_false z]
      exact ⟨_, rfl, q⟩
def spLLine : Sp := fun vs H Q _ => ∃ (k : Nat) (l : List Nat), vs = [nI k, .str (Tx l)] ∧ k ≤ 4 ∧ As l ∧ l.length ≤ 10000 ∧ ∀ H', Same H H' → Q (.bl (rowBy k l)) H'
theorem sc__law_is_line : FnScope ["k", "row", "sign"] ["k", "row"] (defScope s__law_is_line) := ⟨rfl, rfl, rfl, by decide +kernel, rfl, by decide +kernel, by decide +kernel⟩
theorem ok__law_is_line (T : Txt K mg) (F : FunP K "_law_is_line" "_law_is_line" s__law_is_line f fd) : FnOk P w K mg base CX0 1 f fd ["k", "row"] spLLine := by
  refine F.ok sc__law_is_line (fun vs H Q E h => ?_) (fun cdv A outer s H vs Q E hr h => ?_)
  · obtain ⟨k, l, rfl, _⟩ := h
    rfl
  · obtain ⟨k, l, rfl, hk, ha, hl, q⟩ := h
    refine ⟨_, PSs.nox (pss_one (ps_ret (pe_and (pe_cmpR op_le (pe_callB call_len_str (by rfl) T.b_len (by decide +kernel) (pa_cons (pv 1) pa_nil)) pe_int (nomark _)) (pe_one (pe_cmpR (op_eqD hr.units) (pe_lc (own := [("sign", 2)]) (g := (gName 2)) (tt := _) (by rfl) sc__law_is_line.nd (pi_str (pv 1)) (blkOk_by (own := [("sign", 2)]) (N := ["k", "row", "sign"]) (sc := defScope s__law_is_line) (by decide +kernel)) (fun _ _ _ _ _ => (pg_name (i := 2) sc__law_is_line.nd rfl (.inl rfl))) (fun _ _ _ _ _ => pts_one (pt_cmpR op_notIn_sign (pv 2) (pe_op op_add_str (pe_op op_add_str (pe_slice sl_str pe_str po_none (po_some (pv 0))) (pe_slice sl_str pe_str po_none (po_some (pv 0)))) pe_str) rfl)) (fun _ _ _ _ _ => (pv 2))) (pe_lst pa_nil) (nomark _)))))) , ?_⟩
    refine ⟨_, rfl, _, rfl, by rw [Tx_len]; exact sl_le (by omega), _, _, rfl, rfl, _, rfl, ?_⟩
    rw [Tx_len]
    have e40 : decide (((l.length : Nat) : Int) ≤ 40) = decide (l.length ≤ 40) := decide_eq_decide.mpr ⟨fun z => by omega, fun z => by omega⟩
    rw [e40]
    refine iteB (fun c => ?_) (fun c => ?_)
    · have c1 := of_decide_eq_true c
      refine ⟨_, rfl, Tx l, rfl, fun D hD => ?_⟩
      have e1 := cutS_to [40, 91, 123, 60] k
      have e2 := cutS_to [41, 93, 125, 62] k
      have ln := kSgn_len hk
      refine lcF walk_str (fun i => !decide (l.getD i 0 ∈ kSet k ++ [63])) (fun i => .str (Tx [l.getD i 0])) hD (by simp [Tx]; omega) (fun _ _ => trivial) (fun i x H2 H3 hi s2 y N hN => ?_) (fun H2 s2 e2 => ?_)
      · obtain ⟨rfl, c, hc, rfl⟩ := y
        have hc' : l[i]? = some c := by simpa [Tx] using hc
        have hd : l.getD i 0 = c := by simp [List.getD_eq_getElem?_getD, hc']
        have eS : cutS (Str.ofString "([{<") none (some (k : Int)) ++ cutS (Str.ofString ")]}>") none (some (k : Int)) = Tx (kSgn k) := by
          show cutS (Tx [40, 91, 123, 60]) none (some (k : Int)) ++ cutS (Tx [41, 93, 125, 62]) none (some (k : Int)) = _
          rw [e1, e2, Tx_app]
          rfl
        have eL : (cutS (Str.ofString "([{<") none (some (k : Int))).length + (cutS (Str.ofString ")]}>") none (some (k : Int))).length ≤ 100 := by
          show (cutS (Tx [40, 91, 123, 60]) none (some (k : Int))).length + (cutS (Tx [41, 93, 125, 62]) none (some (k : Int))).length ≤ _
          rw [e1, e2, Tx_len, Tx_len]
          unfold kSgn at ln
          rw [List.length_append] at ln
          omega
        refine ⟨rfl, _, rfl, _, rfl, _, rfl, _, rfl, by decide, _, rfl, _, rfl, _, rfl, by decide, _, _, rfl, rfl, Nat.le_trans eL (sl_le (by decide)), _, _, rfl, rfl, ?_, c, _, rfl, rfl, _, rfl, ?_⟩
        · rw [eS, Tx_len]
          exact sl_le (by show (kSgn k).length + 1 ≤ _; omega)
        have e63 : Str.ofString "?" = Tx [63] := rfl
        have hN2 := hN _ (Same.refl _)
        rw [hd] at hN2
        rw [eS, e63, Tx_app, Tx_cps]
        have em : (!decide (c ∈ kSgn k ++ [63])) = !decide (c ∈ kSet k ++ [63]) := by
          refine congrArg (! ·) (decide_eq_decide.mpr ?_)
          rw [List.mem_append, List.mem_append, kSgn_mem hk]
        rw [em]
        refine iteB (fun z => ⟨_, rfl, ?_⟩) (fun z => ?_)
        · rw [z, if_pos rfl] at hN2
          exact hN2
        · rw [z, if_neg (by decide)] at hN2
          exact hN2
      · have hlen : (Tx l).cps.size = l.length := by simp [Tx]
        rw [hlen] at e2
        rw [lcV_filter (p := fun c => !decide (c ∈ kSet k ++ [63])) (v := fun c => .str (Tx [c]))] at e2
        refine ⟨Nat.zero_le _, fun p hp => eqD_nil (.inl (.inl ((same_upd hp) _ _ e2))) (.inl (.inl upd_same)) (fun x hx => ?_) ?_⟩
        · obtain ⟨c, hc, rfl⟩ := List.mem_map.mp hx
          refine .inr ⟨[c], rfl, fun d hd => ?_⟩
          rw [List.mem_singleton.mp hd]
          exact ha c ((List.mem_filter.mp hc).1)
        · rw [all_filter l fun c => decide (c ∈ kSet k ++ [63])]
          have e : rowBy k l = l.all fun c => decide (c ∈ kSet k ++ [63]) := by simp [rowBy, c1]
          rw [← e]
          exact q _ (s2.trans (same_upd hp))
    · have c1 : ¬ l.length ≤ 40 := of_decide_eq_false c
      have e : rowBy k l = false := by simp [rowBy, c1]
      have := q H (Same.refl H)
      rw [e] at this
      exact this
end
end BR
set_option Elab.async false
set_option linter.all false
set_option maxRecDepth 100000
set_option maxHeartbeats 4000000
/-! L2: the law's helpers: a right row, bent, a line -/
namespace BR
open PySem PySem.Spec PyProof.Rows L2
/-- signs of a row with k kinds -/
def KS4 (k : Nat) (l : List Nat) : Prop := ∀ c ∈ l, c ∈ kSet k
theorem op_mem {k kd : Nat} (hk : k ≤ 4) (h : kd < k) : [40, 91, 123, 60].getD kd 0 ∈ kSet k ∧ [41, 93, 125, 62].getD kd 0 ∈ kSet k := by
  have h1 : ∀ k, k ≤ 4 → ∀ kd, kd < k → [40, 91, 123, 60].getD kd 0 ∈ kSet k ∧ [41, 93, 125, 62].getD kd 0 ∈ kSet k := by decide
  exact h1 k hk kd h
section
variable {P : Program} {w : World} {K : PySem.W.Frag} {mg : Str → Option Value} {base : Heap} {f : Addr} {fd : FuncData}
def spRightRow : Sp := fun vs H Q _ => ∃ (p : Addr) (k n : Nat), vs = [.ref p, nI k, nI n] ∧ 1 ≤ k ∧ k ≤ 4 ∧ n ≤ 20 ∧ PoolAt H p ∧ ∀ (l : List Nat) H', l.length = 2 * n → KS4 k l → SameX p H H' → PoolAt H' p → Q (.str (Tx l)) H'
theorem sc__law_right_row : FnScope ["pool", "k", "pairs", "row", "left", "waiting", "kind"] ["pool", "k", "pairs"] (defScope s__law_right_row) := ⟨rfl, rfl, rfl, by decide +kernel, rfl, by decide +kernel, by decide +kernel⟩
theorem ok__law_right_row (T : Txt K mg) (F : FunP K "_law_right_row" "_law_right_row" s__law_right_row f fd) (g__law_draw : Dk P w K mg base CX0 1 "_law_draw" ["pool", "many"] spDraw) : FnOk P w K mg base CX0 2 f fd ["pool", "k", "pairs"] spRightRow := by
  refine F.ok sc__law_right_row (fun vs H Q E h => ?_) (fun cdv A outer s H vs Q E hr h => ?_)
  · obtain ⟨p, k, n, rfl, _⟩ := h
    rfl
  · obtain ⟨p, k, n, rfl, k1, k4, hn, hP, q⟩ := h
    refine ⟨_, PSs.nox (pss_cons (ps_set (i := 3) sc__law_right_row.nd rfl (.inl rfl) pe_str)
       (pss_cons (ps_set (i := 4) sc__law_right_row.nd rfl (.inl rfl) (pv 2))
       (pss_cons (ps_set (i := 5) sc__law_right_row.nd rfl (.inl rfl) pe_str)
       (pss_cons (ps_while PassesOwn.never (PW.pt (pw_or (pt_cmpR op_gt (pv 4) pe_int (nomark _)) (pw_or1 (pt_cmpR op_ne (pv 5) pe_str (nomark _)))))
        (pss_one (ps_if (PW.pt (pw_and (pt_cmpR op_gt (pv 4) pe_int (nomark _)) (pw_and1 (PW.pt (pw_or (pt_cmpR op_eq (pv 5) pe_str (nomark _)) (pw_or1 (pt_cmpR op_eq (g__law_draw.call hr pass0 (pa_cons (pv 0) (pa_cons pe_int pa_nil))) pe_int (nomark _))))))))
        (pss_cons (ps_set (i := 6) sc__law_right_row.nd rfl (.inl rfl) (g__law_draw.call hr pass0 (pa_cons (pv 0) (pa_cons (pv 1) pa_nil))))
       (pss_cons (ps_set (i := 3) sc__law_right_row.nd rfl (.inl rfl) (pe_op op_add_str (pv 3) (pe_ix ix_str pe_str (pv 6) (fun _ _ => rfl))))
       (pss_cons (ps_set (i := 5) sc__law_right_row.nd rfl (.inl rfl) (pe_op op_add_str (pv 5) (pe_ix ix_str pe_str (pv 6) (fun _ _ => rfl))))
       (pss_one (ps_set (i := 4) sc__law_right_row.nd rfl (.inl rfl) (pe_op op_sub (pv 4) pe_int))))))
        (pss_cons (ps_set (i := 3) sc__law_right_row.nd rfl (.inl rfl) (pe_op op_add_str (pv 3) (pe_ix ix_str (pv 5) (pe_un un_neg pe_int) (fun _ _ => rfl))))
       (pss_one (ps_set (i := 5) sc__law_right_row.nd rfl (.inl rfl) (pe_slice sl_str (pv 5) po_none (po_some (pe_un un_neg pe_int)))))))))
       (pss_one (ps_ret (pv 3))))))) , ?_⟩
    refine ⟨_, rfl, ⟨fun m σ H' => ∃ (y6 : Option V) (r wt : List Nat) (j : Nat), σ = [some (.ref p), some (nI k), some (nI n), some (.str (Tx r)), some (nI j), some (.str (Tx wt)), y6] ∧ m = 2 * j + wt.length ∧ r.length + (2 * j + wt.length) = 2 * n ∧ KS4 k r ∧ KS4 k wt ∧ SameX p H H' ∧ PoolAt H' p,
      ⟨_, none, [], [], n, rfl, rfl, by simp, fun c hc => (by cases hc), fun c hc => (by cases hc), SameX.refl p H, hP⟩, ?_⟩⟩
    rintro m σ H1 ⟨y6, r, wt, j, rfl, rfl, hlen, kr, kw, s1, hP1⟩
    have inv : ∀ (y : Option V) (r' wt' : List Nat) (j' : Nat) (H' : Hp), 2 * j' + wt'.length < 2 * j + wt.length → r'.length + (2 * j' + wt'.length) = 2 * n → KS4 k r' → KS4 k wt' → SameX p H1 H' → PoolAt H' p →
        ∃ m', m' < 2 * j + wt.length ∧ ∃ (y6 : Option V) (r wt : List Nat) (j : Nat), [some (.ref p), some (nI k), some (nI n), some (.str (Tx r')), some (nI j'), some (.str (Tx wt')), y] = [some (.ref p), some (nI k), some (nI n), some (.str (Tx r)), some (nI j), some (.str (Tx wt)), y6] ∧ m' = 2 * j + wt.length ∧ r.length + (2 * j + wt.length) = 2 * n ∧ KS4 k r ∧ KS4 k wt ∧ SameX p H H' ∧ PoolAt H' p :=
      fun y r' wt' j' H' h1 h2 h3 h4 h5 h6 => ⟨_, h1, y, r', wt', j', rfl, rfl, h2, h3, h4, s1.trans h5, h6⟩
    have big2 : 2 < 2 ^ 1901 := Nat.lt_of_lt_of_le (show 2 < 2 ^ 2 by decide) (Nat.pow_le_pow_right (by decide) (by decide))
    have bigk : k < 2 ^ 1901 := Nat.lt_of_lt_of_le (show k < 2 ^ 3 by omega) (Nat.pow_le_pow_right (by decide) (by decide))
    have hempty : decide (V.str (Tx wt) = V.str (Str.ofString "")) = decide (wt = []) := tx_empty
    have hj0 : decide ((0 : Int) < (j : Int)) = decide (0 < j) := decide_eq_decide.mpr ⟨fun z => by omega, fun z => by omega⟩
    -- the closing step
    have close : wt ≠ [] → wt[wt.length - 1]? = some (wt.getLastD 0) ∧ wt.getLastD 0 ∈ kSet k ∧ wt.dropLast.length = wt.length - 1 ∧ KS4 k wt.dropLast ∧ 0 < wt.length := fun z => by
      have h0 : 0 < wt.length := List.length_pos_iff.mpr z
      have h1 : wt[wt.length - 1]? = some (wt.getLastD 0) := by
        rw [← List.getLast?_eq_getElem?, List.getLastD_eq_getLast?]
        cases e : wt.getLast? with
        | none => exact absurd (List.getLast?_eq_none_iff.mp e) z
        | some c => rfl
      exact ⟨h1, kw _ (List.mem_of_getElem? h1), List.length_dropLast, fun c hc => kw c ((List.dropLast_sublist wt).subset hc), h0⟩
    refine ⟨_, rfl, _, _, rfl, rfl, _, rfl, ?_⟩
    rw [hj0]
    refine iteB (fun c1 => ?_) (fun c1 => ?_)
    · have hj : 0 < j := of_decide_eq_true c1
      refine ⟨fun σ' H' => ∃ m', m' < 2 * j + wt.length ∧ ∃ (y6 : Option V) (r wt : List Nat) (j : Nat), σ' = [some (.ref p), some (nI k), some (nI n), some (.str (Tx r)), some (nI j), some (.str (Tx wt)), y6] ∧ m' = 2 * j + wt.length ∧ r.length + (2 * j + wt.length) = 2 * n ∧ KS4 k r ∧ KS4 k wt ∧ SameX p H H' ∧ PoolAt H' p, fun σ' H' h => h, ?_⟩
      refine ⟨_, rfl, _, _, rfl, rfl, _, rfl, ?_⟩
      rw [hj0, c1]
      refine iteT ?_
      refine ⟨_, rfl, rfl, _, rfl, ?_⟩
      rw [hempty]
      refine iteB (fun c2 => ?_) (fun c2 => ?_)
      · have hw0 : wt = [] := of_decide_eq_true c2
        refine ⟨_, rfl, _, rfl, p, k, rfl, k1, bigk, hP1, fun kd H3 hkd s3 hP3 => ?_⟩
        have hc1 : [40, 91, 123, 60].getD kd 0 ∈ kSet k ∧ [41, 93, 125, 62].getD kd 0 ∈ kSet k := op_mem k4 hkd
        refine ⟨_, rfl, _, rfl, _, _, _, rfl, rfl, by decide, at_tx (l := [40, 91, 123, 60]) (j := kd) (getD_at (by show kd < 4; omega)), _, _, rfl, rfl, ?_, ?_⟩
        · show (Tx r).length + (Tx [[40, 91, 123, 60].getD kd 0]).length ≤ _
          rw [Tx_len, Tx_len]
          exact sl_le (by show _ + 1 ≤ _; omega)
        refine ⟨_, rfl, _, rfl, _, _, _, rfl, rfl, by decide, at_tx (l := [41, 93, 125, 62]) (j := kd) (getD_at (by show kd < 4; omega)), _, _, rfl, rfl, ?_, ?_⟩
        · show (Tx wt).length + (Tx [[41, 93, 125, 62].getD kd 0]).length ≤ _
          rw [Tx_len, Tx_len]
          exact sl_le (by show _ + 1 ≤ _; omega)
        refine ⟨_, rfl, _, _, rfl, rfl, ?_⟩
        have ej : ((j : Int) - 1) = ((j - 1 : Nat) : Int) := by omega
        show ∃ m', m' < 2 * j + wt.length ∧ ∃ (y6 : Option V) (r2 wt2 : List Nat) (j2 : Nat), [some (.ref p), some (nI k), some (nI n), some (.str (Tx r ++ Tx [[40, 91, 123, 60].getD kd 0])), some (V.int ((j : Int) - 1)), some (.str (Tx wt ++ Tx [[41, 93, 125, 62].getD kd 0])), some (nI kd)] = [some (.ref p), some (nI k), some (nI n), some (.str (Tx r2)), some (nI j2), some (.str (Tx wt2)), y6] ∧ _ ∧ _ ∧ _
        rw [Tx_app, Tx_app, ej]
        refine inv (some (nI kd)) _ _ (j - 1) H3 ?_ ?_ (fun c hc => ?_) (fun c hc => ?_) (s3) hP3
        · rw [List.length_append]
          show 2 * (j - 1) + (wt.length + 1) < _
          omega
        · rw [List.length_append, List.length_append]
          show r.length + 1 + (2 * (j - 1) + (wt.length + 1)) = _
          omega
        · rcases List.mem_append.mp hc with z | z
          · exact kr c z
          · rw [List.mem_singleton.mp z]
            exact hc1.1
        · rcases List.mem_append.mp hc with z | z
          · exact kw c z
          · rw [List.mem_singleton.mp z]
            exact hc1.2
      · have hw : wt ≠ [] := of_decide_eq_false c2
        refine ⟨_, rfl, p, 2, rfl, by decide, big2, hP1, fun rr H2 hrr s2 hP2 => ⟨rfl, _, rfl, ?_⟩⟩
        refine iteB (fun c3 => ?_) (fun c3 => ?_)
        · refine ⟨_, rfl, _, rfl, p, k, rfl, k1, bigk, hP2, fun kd H3 hkd s3 hP3 => ?_⟩
          have hc1 : [40, 91, 123, 60].getD kd 0 ∈ kSet k ∧ [41, 93, 125, 62].getD kd 0 ∈ kSet k := op_mem k4 hkd
          refine ⟨_, rfl, _, rfl, _, _, _, rfl, rfl, by decide, at_tx (l := [40, 91, 123, 60]) (j := kd) (getD_at (by show kd < 4; omega)), _, _, rfl, rfl, ?_, ?_⟩
          · show (Tx r).length + (Tx [[40, 91, 123, 60].getD kd 0]).length ≤ _
            rw [Tx_len, Tx_len]
            exact sl_le (by show _ + 1 ≤ _; omega)
          refine ⟨_, rfl, _, rfl, _, _, _, rfl, rfl, by decide, at_tx (l := [41, 93, 125, 62]) (j := kd) (getD_at (by show kd < 4; omega)), _, _, rfl, rfl, ?_, ?_⟩
          · show (Tx wt).length + (Tx [[41, 93, 125, 62].getD kd 0]).length ≤ _
            rw [Tx_len, Tx_len]
            exact sl_le (by show _ + 1 ≤ _; omega)
          refine ⟨_, rfl, _, _, rfl, rfl, ?_⟩
          have ej : ((j : Int) - 1) = ((j - 1 : Nat) : Int) := by omega
          show ∃ m', m' < 2 * j + wt.length ∧ ∃ (y6 : Option V) (r2 wt2 : List Nat) (j2 : Nat), [some (.ref p), some (nI k), some (nI n), some (.str (Tx r ++ Tx [[40, 91, 123, 60].getD kd 0])), some (V.int ((j : Int) - 1)), some (.str (Tx wt ++ Tx [[41, 93, 125, 62].getD kd 0])), some (nI kd)] = [some (.ref p), some (nI k), some (nI n), some (.str (Tx r2)), some (nI j2), some (.str (Tx wt2)), y6] ∧ _ ∧ _ ∧ _
          rw [Tx_app, Tx_app, ej]
          refine inv (some (nI kd)) _ _ (j - 1) H3 ?_ ?_ (fun c hc => ?_) (fun c hc => ?_) (s2.trans s3) hP3
          · rw [List.length_append]
            show 2 * (j - 1) + (wt.length + 1) < _
            omega
          · rw [List.length_append, List.length_append]
            show r.length + 1 + (2 * (j - 1) + (wt.length + 1)) = _
            omega
          · rcases List.mem_append.mp hc with z | z
            · exact kr c z
            · rw [List.mem_singleton.mp z]
              exact hc1.1
          · rcases List.mem_append.mp hc with z | z
            · exact kw c z
            · rw [List.mem_singleton.mp z]
              exact hc1.2
        · obtain ⟨w1, w2, w3, w4, w5⟩ := close hw
          refine ⟨_, rfl, _, rfl, _, rfl, _, _, _, rfl, rfl, by rw [Tx_len]; exact sl_le (by omega), at_txL w1, _, _, rfl, rfl, ?_, ?_⟩
          · show (Tx r).length + (Tx [wt.getLastD 0]).length ≤ _
            rw [Tx_len, Tx_len]
            exact sl_le (by show _ + 1 ≤ _; omega)
          refine ⟨_, rfl, _, rfl, _, rfl, _, rfl, by rw [Tx_len]; exact sl_le (by omega), ?_⟩
          show ∃ m', m' < 2 * j + wt.length ∧ ∃ (y6' : Option V) (r2 wt2 : List Nat) (j2 : Nat), [some (.ref p), some (nI k), some (nI n), some (.str (Tx r ++ Tx [wt.getLastD 0])), some (nI j), some (.str (cutS (Tx wt) none (some (-1)))), y6] = [some (.ref p), some (nI k), some (nI n), some (.str (Tx r2)), some (nI j2), some (.str (Tx wt2)), y6'] ∧ _ ∧ _ ∧ _
          rw [Tx_app, cutS_init]
          refine inv y6 _ _ j _ ?_ ?_ (fun c hc => ?_) w4 (s2) hP2
          · omega
          · rw [List.length_append]
            show r.length + 1 + _ = _
            omega
          · rcases List.mem_append.mp hc with z | z
            · exact kr c z
            · rw [List.mem_singleton.mp z]
              exact w2
    · have hj : ¬ 0 < j := of_decide_eq_false c1
      refine ⟨_, rfl, rfl, _, rfl, ?_⟩
      rw [hempty]
      cases c2 : decide (wt = []) with
      | true =>
        have hw0 : wt = [] := of_decide_eq_true c2
        refine iteF ⟨_, rfl, ?_⟩
        refine q r H1 ?_ kr s1 hP1
        rw [hw0] at hlen
        have : ([] : List Nat).length = 0 := rfl
        omega
      | false =>
        have hw : wt ≠ [] := of_decide_eq_false c2
        refine iteT ?_
        refine ⟨fun σ' H' => ∃ m', m' < 2 * j + wt.length ∧ ∃ (y6 : Option V) (r wt : List Nat) (j : Nat), σ' = [some (.ref p), some (nI k), some (nI n), some (.str (Tx r)), some (nI j), some (.str (Tx wt)), y6] ∧ m' = 2 * j + wt.length ∧ r.length + (2 * j + wt.length) = 2 * n ∧ KS4 k r ∧ KS4 k wt ∧ SameX p H H' ∧ PoolAt H' p, fun σ' H' h => h, ?_⟩
        refine ⟨_, rfl, _, _, rfl, rfl, _, rfl, ?_⟩
        rw [hj0, c1]
        refine iteF ?_
        obtain ⟨w1, w2, w3, w4, w5⟩ := close hw
        refine ⟨_, rfl, _, rfl, _, rfl, _, _, _, rfl, rfl, by rw [Tx_len]; exact sl_le (by omega), at_txL w1, _, _, rfl, rfl, ?_, ?_⟩
        · show (Tx r).length + (Tx [wt.getLastD 0]).length ≤ _
          rw [Tx_len, Tx_len]
          exact sl_le (by show _ + 1 ≤ _; omega)
        refine ⟨_, rfl, _, rfl, _, rfl, _, rfl, by rw [Tx_len]; exact sl_le (by omega), ?_⟩
        show ∃ m', m' < 2 * j + wt.length ∧ ∃ (y6' : Option V) (r2 wt2 : List Nat) (j2 : Nat), [some (.ref p), some (nI k), some (nI n), some (.str (Tx r ++ Tx [wt.getLastD 0])), some (nI j), some (.str (cutS (Tx wt) none (some (-1)))), y6] = [some (.ref p), some (nI k), some (nI n), some (.str (Tx r2)), some (nI j2), some (.str (Tx wt2)), y6'] ∧ _ ∧ _ ∧ _
        rw [Tx_app, cutS_init]
        refine inv y6 _ _ j _ ?_ ?_ (fun c hc => ?_) w4 (SameX.refl p H1) hP1
        · omega
        · rw [List.length_append]
          show r.length + 1 + _ = _
          omega
        · rcases List.mem_append.mp hc with z | z
          · exact kr c z
          · rw [List.mem_singleton.mp z]
            exact w2
end
end BR
set_option Elab.async false
set_option linter.all false
set_option maxRecDepth 100000
set_option maxHeartbeats 4000000
/-! L3: the law's helpers: bent -/
namespace BR
open PySem PySem.Spec PyProof.Rows L2
theorem big_lt {n : Nat} (h : n ≤ 1000000000000) : n < 2 ^ 1901 := Nat.lt_of_lt_of_le (show n < 2 ^ 60 by omega) (Nat.pow_le_pow_right (by decide) (by decide))
/-- signs and ? -/
def KQ (k : Nat) (l : List Nat) : Prop := ∀ c ∈ l, c ∈ kSet k ++ [63]
theorem KS4.q {k : Nat} {l : List Nat} (h : KS4 k l) : KQ k l := fun c hc => List.mem_append_left _ (h c hc)
theorem KQ.row {k : Nat} {l : List Nat} (h : KQ k l) (hl : l.length ≤ 40) : rowBy k l = true := by
  unfold rowBy
  exact Bool.and_eq_true_iff.mpr ⟨decide_eq_true hl, List.all_eq_true.mpr fun c hc => decide_eq_true (h c hc)⟩
theorem KQ.app {k : Nat} {l m : List Nat} (h : KQ k l) (g : KQ k m) : KQ k (l ++ m) := fun c hc => (List.mem_append.mp hc).elim (h c) (g c)
theorem KQ.take {k n : Nat} {l : List Nat} (h : KQ k l) : KQ k (l.take n) := fun c hc => h c (List.mem_of_mem_take hc)
theorem KQ.drop {k n : Nat} {l : List Nat} (h : KQ k l) : KQ k (l.drop n) := fun c hc => h c (List.mem_of_mem_drop hc)
theorem KQ.one {k c : Nat} (h : c ∈ kSet k ++ [63]) : KQ k [c] := fun d hd => by rw [List.mem_singleton.mp hd]; exact h
theorem q_mem (k : Nat) : 63 ∈ kSet k ++ [63] := List.mem_append_right _ (List.mem_singleton_self 63)
section
variable {P : Program} {w : World} {K : PySem.W.Frag} {mg : Str → Option Value} {base : Heap} {f : Addr} {fd : FuncData}
def spBent : Sp := fun vs H Q _ => ∃ (p : Addr) (k o : Nat) (l : List Nat), vs = [.ref p, nI k, .str (Tx l), nI o] ∧ 1 ≤ k ∧ k ≤ 4 ∧ o ≤ 10 ∧ l.length ≤ 40 ∧ KS4 k l ∧ PoolAt H p ∧ ∀ (m : List Nat) H', m.length ≤ l.length → KQ k m → SameX p H H' → PoolAt H' p → Q (.str (Tx m)) H'
theorem sc__law_bent : FnScope ["pool", "k", "row", "often", "found", "sign", "at"] ["pool", "k", "row", "often"] (defScope s__law_bent) := ⟨rfl, rfl, rfl, by decide +kernel, rfl, by decide +kernel, by decide +kernel⟩
theorem ok__law_bent (T : Txt K mg) (F : FunP K "_law_bent" "_law_bent" s__law_bent f fd) (g__law_draw : Dk P w K mg base CX0 1 "_law_draw" ["pool", "many"] spDraw) (g__law_signs : Dk P w K mg base CX0 1 "_law_signs" ["k"] spSigns) : FnOk P w K mg base CX0 2 f fd ["pool", "k", "row", "often"] spBent := by
  refine F.ok sc__law_bent (fun vs H Q E h => ?_) (fun cdv A outer s H vs Q E hr h => ?_)
  · obtain ⟨p, k, o, l, rfl, _⟩ := h
    rfl
  · obtain ⟨p, k, o, l, rfl, k1, k4, ho, hl, kl, hP, q⟩ := h
    refine ⟨_, PSs.nox (pss_cons (ps_set (i := 4) sc__law_bent.nd rfl (.inl rfl) pe_str)
       (pss_cons (ps_for PassesOwn.never rfl (pi_str (pv 2)) (pg_name (i := 5) sc__law_bent.nd rfl (.inl rfl))
        (pss_one (ps_set (i := 4) sc__law_bent.nd rfl (.inl rfl) (pe_op op_add_str (pv 4) (pe_ix (show IxR _ (rIxL K) from ix_list) (pe_lst (pa_cons (pv 5) (pa_cons pe_str pa_nil))) (pe_callTy call_int1 (by rfl) T.b_int (by decide +kernel) (pa_cons (pe_and (pe_cmpR op_gt (pv 3) pe_int (nomark _)) (pe_one (pe_cmpR op_eq (g__law_draw.call hr pass0 (pa_cons (pv 0) (pa_cons (pv 3) pa_nil))) pe_int (nomark _)))) pa_nil)) (fun _ _ => rfl))))))
       (pss_cons (ps_if (PW.pt (pw_and (pt_cmpR op_ne (pv 4) pe_str (nomark _)) (pw_and1 (pt_cmpR op_eq (g__law_draw.call hr pass0 (pa_cons (pv 0) (pa_cons pe_int pa_nil))) pe_int (nomark _)))))
        (pss_cons (ps_set (i := 6) sc__law_bent.nd rfl (.inl rfl) (g__law_draw.call hr pass0 (pa_cons (pv 0) (pa_cons (pe_callB call_len_str (by rfl) T.b_len (by decide +kernel) (pa_cons (pv 4) pa_nil)) pa_nil))))
       (pss_one (ps_set (i := 4) sc__law_bent.nd rfl (.inl rfl) (pe_op op_add_str (pe_op op_add_str (pe_slice sl_str (pv 4) po_none (po_some (pv 6))) (pe_ix ix_str (pe_op op_add_str (g__law_signs.call hr pass0 (pa_cons (pv 1) pa_nil)) pe_str) (g__law_draw.call hr pass0 (pa_cons (pv 0) (pa_cons (pe_op op_add (pe_op op_mul pe_int (pv 1)) pe_int) pa_nil))) (fun _ _ => rfl))) (pe_slice sl_str (pv 4) (po_some (pe_op op_add (pv 6) pe_int)) po_none)))))
        pss_nil)
       (pss_cons (ps_if (pt_cmpR op_eq (g__law_draw.call hr pass0 (pa_cons (pv 0) (pa_cons pe_int pa_nil))) pe_int (nomark _))
        (pss_one (ps_set (i := 4) sc__law_bent.nd rfl (.inl rfl) (pe_slice sl_str (pv 4) po_none (po_some (g__law_draw.call hr pass0 (pa_cons (pv 0) (pa_cons (pe_op op_add (pe_callB call_len_str (by rfl) T.b_len (by decide +kernel) (pa_cons (pv 4) pa_nil)) pe_int) pa_nil)))))))
        pss_nil)
       (pss_one (ps_ret (pv 4))))))) , ?_⟩
    refine ⟨_, rfl, Tx l, rfl, ?_⟩
    refine for_it walk_str (fun i σ H' => ∃ (y5 : Option V) (m : List Nat), σ = [some (.ref p), some (nI k), some (.str (Tx l)), some (nI o), some (.str (Tx m)), y5, none] ∧ m.length = i ∧ KQ k m ∧ SameX p H H' ∧ PoolAt H' p)
      ⟨none, [], rfl, rfl, fun c hc => (by cases hc), SameX.refl p H, hP⟩ (fun _ _ _ _ _ => trivial) (fun i x σ H2 H3 hi hPv hY => ?_) (fun σ H2 hPv => ?_)
    · obtain ⟨y5, m, rfl, hm, km, s2, hP2⟩ := hPv
      obtain ⟨rfl, c, hc, rfl⟩ := hY
      have hc' : l[i]? = some c := by simpa [Tx] using hc
      have hil : i < l.length := by
        have : i < (Tx l).cps.size := hi
        simpa [Tx] using this
      have kc := kl c (List.mem_of_getElem? hc')
      refine ⟨_, rfl, ?_⟩
      have hm40 : m.length ≤ 40 := by omega
      refine ⟨_, rfl, by show 2 ≤ sizeLine; decide, fun D hD => ?_⟩
      have eD : (upd H3 D (.lst [V.str (Tx [c]), V.str (Str.ofString "?")])) D = some (.lst [V.str (Tx [c]), V.str (Str.ofString "?")]) := upd_same
      have sD : Same H3 (upd H3 D (.lst [V.str (Tx [c]), V.str (Str.ofString "?")])) := same_upd hD
      have npD : D ≠ p := by
        obtain ⟨a, b, cc, e⟩ := hP2
        exact fun z => by rw [z, e] at hD; cases hD
      refine ⟨_, rfl, _, _, rfl, rfl, _, rfl, ?_⟩
      have ho0 : decide ((0 : Int) < (o : Int)) = decide (0 < o) := decide_eq_decide.mpr ⟨fun z => by omega, fun z => by omega⟩
      rw [ho0]
      refine iteB (fun c1 => ?_) (fun c1 => ?_)
      · have h1 : 0 < o := of_decide_eq_true c1
        refine ⟨_, rfl, _, rfl, p, o, rfl, h1, big_lt (by omega), hP2.same sD, fun r H5 hr s5 hP5 => ⟨rfl, ?_⟩⟩
        have eD5 := s5 _ _ npD eD
        have s25 : SameX p H H5 := (s2.trans (sameX sD)).trans s5
        cases hb : decide (V.int (r : Int) = V.int 0) with
        | false =>
          refine .inr ⟨_, rfl, D, _, _, _, rfl, rfl, .inl (.inl eD5), atI_nat (j := 0) rfl, _, _, rfl, rfl, by rw [Tx_len]; exact sl_le (by show _ + 1 ≤ _; omega), ?_⟩
          refine ⟨some (V.str (Tx [c])), m ++ [c], ?_, by rw [List.length_append, hm]; rfl, km.app (KQ.one (List.mem_append_left _ kc)), s25, hP5⟩
          rw [← Tx_app]
          rfl
        | true =>
          refine .inr ⟨_, rfl, D, _, _, _, rfl, rfl, .inl (.inl eD5), atI_nat (j := 1) rfl, _, _, rfl, rfl, by rw [Tx_len]; exact sl_le (by show _ + 1 ≤ _; omega), ?_⟩
          refine ⟨some (V.str (Tx [c])), m ++ [63], ?_, by rw [List.length_append, hm]; rfl, km.app (KQ.one (q_mem k)), s25, hP5⟩
          rw [← Tx_app]
          rfl
      · have e0 : decide (0 < o) = false := c1
        refine .inr ⟨_, rfl, D, _, _, _, rfl, rfl, .inl (.inl eD), atI_nat (j := 0) rfl, _, _, rfl, rfl, by rw [Tx_len]; exact sl_le (by show _ + 1 ≤ _; omega), ?_⟩
        refine ⟨some (V.str (Tx [c])), m ++ [c], ?_, by rw [List.length_append, hm]; rfl, km.app (KQ.one (List.mem_append_left _ kc)), s2.trans (sameX sD), hP2.same sD⟩
        rw [← Tx_app]
        rfl
    · obtain ⟨y5, m, rfl, hm, km, s2, hP2⟩ := hPv
      have hm' : m.length = l.length := hm.trans (by simp [Tx])
      refine ⟨_, rfl, rfl, _, rfl, ?_⟩
      have hm40 : m.length ≤ 40 := by omega
      have hempty : decide (V.str (Tx m) = V.str (Str.ofString "")) = decide (m = []) := tx_empty
      rw [hempty]
      cases c1 : decide (m = []) with
      | true =>
        refine iteF ?_
        refine ⟨_, rfl, p, 2, rfl, by decide, big_lt (by decide), hP2, fun t1 H6 ht1 s6 hP6 => ⟨rfl, _, rfl, ?_⟩⟩
        refine iteB (fun d1 => ?_) (fun d1 => ?_)
        · refine ⟨_, rfl, _, rfl, _, rfl, _, rfl, by rw [Tx_len]; exact sl_le (by omega), _, _, rfl, rfl, ?_⟩
          rw [Tx_len]
          refine ⟨p, (m).length + 1, rfl, by omega, big_lt (by omega), hP6, fun t2 H7 ht2 s7 hP7 => ?_⟩
          refine ⟨_, rfl, _, rfl, by rw [Tx_len]; exact sl_le (by omega), ?_⟩
          refine ⟨_, rfl, ?_⟩
          rw [cutS_to]
          exact q _ H7 (by rw [List.length_take]; omega) (KQ.take km) (((s2).trans s6).trans s7) hP7
        · exact ⟨_, rfl, q _ H6 (by omega) km ((s2).trans s6) hP6⟩
      | false =>
        have hm0 : 0 < m.length := List.length_pos_iff.mpr (of_decide_eq_false c1)
        refine iteT ?_
        refine ⟨_, rfl, p, 3, rfl, by decide, big_lt (by decide), hP2, fun t3 H3 ht3 s3 hP3 => ⟨rfl, _, rfl, ?_⟩⟩
        refine iteB (fun c2 => ?_) (fun c2 => ?_)
        · refine ⟨_, rfl, _, rfl, _, rfl, by rw [Tx_len]; exact sl_le (by omega), ?_⟩
          rw [Tx_len]
          refine ⟨p, m.length, rfl, hm0, big_lt (by omega), hP3, fun at_ H4 hat s4 hP4 => ?_⟩
          have ls : (kSgn k ++ [63]).length = 2 * k + 1 := by
            rw [List.length_append, kSgn_len k4]
            rfl
          refine ⟨_, rfl, _, rfl, _, rfl, _, rfl, by rw [Tx_len]; exact sl_le (by omega), ?_⟩
          refine ⟨_, rfl, k, rfl, k4, _, _, rfl, rfl, ?_, ?_⟩
          · rw [Tx_len, kSgn_len k4]
            exact sl_le (by show _ + 1 ≤ _; omega)
          have e63 : Tx (kSgn k) ++ Str.ofString "?" = Tx (kSgn k ++ [63]) := Tx_app _ _
          rw [e63]
          refine ⟨_, rfl, _, rfl, _, _, rfl, rfl, .inl ⟨by decide, by decide⟩, _, _, rfl, rfl, p, 2 * k + 1, congrArg (fun z => [V.ref p, V.int z]) (by omega), by omega, big_lt (by omega), hP4, fun t4 H5 ht4 s5 hP5 => ?_⟩
          have kc : (kSgn k ++ [63]).getD t4 0 ∈ kSet k ++ [63] := by
            have hm1 : (kSgn k ++ [63]).getD t4 0 ∈ kSgn k ++ [63] := List.mem_of_getElem? (getD_at (by omega))
            rcases List.mem_append.mp hm1 with z | z
            · exact List.mem_append_left _ ((kSgn_mem k4 _).mp z)
            · exact List.mem_append_right _ z
          refine ⟨_, _, _, rfl, rfl, by rw [Tx_len, ls]; exact sl_le (by omega), at_tx (j := t4) (getD_at (by omega)), _, _, rfl, rfl, ?_, ?_⟩
          · rw [cutS_to, Tx_len, List.length_take]
            exact sl_le (by show _ + 1 ≤ _; omega)
          have ea : ((at_ : Int) + 1) = ((at_ + 1 : Nat) : Int) := by omega
          have eS1 : cutS (Tx m) none (some (at_ : Int)) ++ Tx [(kSgn k ++ [63]).getD t4 0] = Tx (m.take at_ ++ [(kSgn k ++ [63]).getD t4 0]) := by rw [cutS_to, Tx_app]
          have eS2 : cutS (Tx m) (some ((at_ : Int) + 1)) none = Tx (m.drop (at_ + 1)) := by rw [ea, cutS_from]
          have lm : (m.take at_ ++ [(kSgn k ++ [63]).getD t4 0] ++ m.drop (at_ + 1)).length = m.length := by
            rw [List.length_append, List.length_append, List.length_take, List.length_drop]
            show min at_ m.length + 1 + _ = _
            omega
          refine ⟨_, rfl, _, rfl, _, _, rfl, rfl, _, rfl, _, rfl, by rw [Tx_len]; exact sl_le (by omega), _, _, rfl, rfl, ?_, ?_⟩
          · show (cutS (Tx m) none (some (at_ : Int)) ++ Tx [(kSgn k ++ [63]).getD t4 0]).length + (cutS (Tx m) (some ((at_ : Int) + 1)) none).length ≤ _
            rw [eS1, eS2, Tx_len, Tx_len, ← List.length_append, lm]
            exact sl_le (by omega)
          show gName 4 (V.str (cutS (Tx m) none (some (at_ : Int)) ++ Tx [(kSgn k ++ [63]).getD t4 0] ++ cutS (Tx m) (some ((at_ : Int) + 1)) none)) _ _ _
          rw [eS1, eS2, Tx_app]
          have km2 : KQ k (m.take at_ ++ [(kSgn k ++ [63]).getD t4 0] ++ m.drop (at_ + 1)) := (km.take.app (KQ.one kc)).app km.drop
          have s25 := ((s2.trans s3).trans s4).trans s5
          generalize m.take at_ ++ [(kSgn k ++ [63]).getD t4 0] ++ m.drop (at_ + 1) = m2 at lm km2 ⊢

          refine ⟨_, rfl, p, 2, rfl, by decide, big_lt (by decide), hP5, fun t1 H6 ht1 s6 hP6 => ⟨rfl, _, rfl, ?_⟩⟩
          refine iteB (fun d1 => ?_) (fun d1 => ?_)
          · refine ⟨_, rfl, _, rfl, _, rfl, _, rfl, by rw [Tx_len]; exact sl_le (by omega), _, _, rfl, rfl, ?_⟩
            rw [Tx_len]
            refine ⟨p, (m2).length + 1, rfl, by omega, big_lt (by omega), hP6, fun t2 H7 ht2 s7 hP7 => ?_⟩
            refine ⟨_, rfl, _, rfl, by rw [Tx_len]; exact sl_le (by omega), ?_⟩
            refine ⟨_, rfl, ?_⟩
            rw [cutS_to]
            exact q _ H7 (by rw [List.length_take]; omega) (KQ.take km2) (((s25).trans s6).trans s7) hP7
          · exact ⟨_, rfl, q _ H6 (by omega) km2 ((s25).trans s6) hP6⟩
        ·
          refine ⟨_, rfl, p, 2, rfl, by decide, big_lt (by decide), hP3, fun t1 H6 ht1 s6 hP6 => ⟨rfl, _, rfl, ?_⟩⟩
          refine iteB (fun d1 => ?_) (fun d1 => ?_)
          · refine ⟨_, rfl, _, rfl, _, rfl, _, rfl, by rw [Tx_len]; exact sl_le (by omega), _, _, rfl, rfl, ?_⟩
            rw [Tx_len]
            refine ⟨p, (m).length + 1, rfl, by omega, big_lt (by omega), hP6, fun t2 H7 ht2 s7 hP7 => ?_⟩
            refine ⟨_, rfl, _, rfl, by rw [Tx_len]; exact sl_le (by omega), ?_⟩
            refine ⟨_, rfl, ?_⟩
            rw [cutS_to]
            exact q _ H7 (by rw [List.length_take]; omega) (KQ.take km) (((s2.trans s3).trans s6).trans s7) hP7
          · exact ⟨_, rfl, q _ H6 (by omega) km ((s2.trans s3).trans s6) hP6⟩
end
end BR
set_option Elab.async false
set_option linter.all false
set_option maxRecDepth 100000
set_option maxHeartbeats 4000000
/-! L4: the law's helpers: a line; a comprehension that draws -/
namespace BR
open PySem PySem.Spec PyProof.Rows L2
/-- a comprehension whose elements draw from the pool -/
theorem lcA {J : It} {n : Nat} {G : Hp → Prop} {Y : Nat → Hp → V → Hp → Prop} (w : Walk J n G Y) {g : TG} {tt : TT} {te : TE} {vs : List Nat} {σ : L2.St} {H1 : Hp} {D p : Addr} {Qd : Hp → Prop} (R : V → Prop) (hn : H1 D = none) (hP : PoolAt H1 p) (hsz : n ≤ 50000)
    (hG : ∀ H2, SameX p H1 H2 → G H2)
    (hs : ∀ i x H2 H3, i < n → SameX p H1 H2 → PoolAt H2 p → Y i H2 x H3 → ∀ N : Option V → Hp → Prop, (∀ y H', R y → SameX p H2 H' → PoolAt H' p → N (some y) H') → g x (wipe σ vs) H3 fun σ2 H4 => wipe σ2 vs = wipe σ vs ∧ tt σ2 H4 fun b H5 =>
      if b = true then te σ2 H5 fun y H6 => N (some y) H6 else N none H5)
    (hd : ∀ zs H2, SameX p H1 H2 → PoolAt H2 p → zs.length = n → (∀ z ∈ zs, R z) → H2 D = some (.lst zs) → Qd H2) :
    ∃ At : Nat → Nat → Hp → Prop, (∃ left, At 0 left (upd H1 D (.lst []))) ∧ ∀ i left G1, At i left G1 →
      (J.stop i G1 ∧ Qd G1) ∨ (J.go i G1 ∧ ∃ On : Hp → Prop, (∀ G2, On G2 → ∃ less, less < left ∧ At (i + 1) less G2) ∧ ∀ z G2, J.yld i G1 z G2 → g z (wipe σ vs) G2 fun τ G3 => wipe τ vs = wipe σ vs ∧ tt τ G3 fun yes G4 =>
        if yes = true then te τ G4 fun u G5 => ∃ had, G5 D = some (.lst had) ∧ had.length < sizeLine ∧ On (upd G5 D (.lst (had ++ [u]))) else On G4) := by
  have ndp : D ≠ p := by
    obtain ⟨a, b, c, e⟩ := hP
    exact fun z => by rw [z, e] at hn; cases hn
  have keep : ∀ {H' : Hp} {o : HO}, PoolAt H' p → PoolAt (upd H' D o) p := fun {H' o} h => by
    obtain ⟨a, b, c, e⟩ := h
    exact ⟨a, b, c, (upd_ne ndp.symm).trans e⟩
  refine lc_it w (fun i H => SameX p H1 H ∧ PoolAt H p ∧ ∃ zs : List V, zs.length = i ∧ (∀ z ∈ zs, R z) ∧ H D = some (.lst zs)) ⟨sameX (same_upd hn), keep hP, [], rfl, fun z hz => by (cases hz), upd_same⟩ (fun i H _ h => hG H h.1) (fun i x H H' hi h y => ?_) (fun H h => ?_)
  · obtain ⟨p1, p2, zs, z1, z2, z3⟩ := h
    refine hs i x H H' hi p1 p2 y (fun o H4 => match o with
      | some y => ∃ acc, H4 D = some (.lst acc) ∧ acc.length < sizeLine ∧ (SameX p H1 (upd H4 D (.lst (acc ++ [y]))) ∧ PoolAt (upd H4 D (.lst (acc ++ [y]))) p ∧ ∃ zs : List V, zs.length = i + 1 ∧ (∀ z ∈ zs, R z) ∧ (upd H4 D (.lst (acc ++ [y]))) D = some (.lst zs))
      | none => SameX p H1 H4 ∧ PoolAt H4 p ∧ ∃ zs : List V, zs.length = i + 1 ∧ (∀ z ∈ zs, R z) ∧ H4 D = some (.lst zs)) (fun y H4 hy s4 hP4 => ?_)
    refine ⟨zs, s4 _ _ ndp z3, sl_lt (by omega), fun b o nb e => ?_, keep hP4, zs ++ [y], by rw [List.length_append, z1]; rfl, fun z hz => ?_, upd_same⟩
    · rw [upd_ne (ne_of_none e hn)]
      exact s4 b o nb (p1 b o nb e)
    · rcases List.mem_append.mp hz with h | h
      · exact z2 z h
      · rw [List.mem_singleton.mp h]
        exact hy
  · obtain ⟨p1, p2, zs, z1, z2, z3⟩ := h
    exact hd zs H p1 p2 z1 z2 z3
theorem PoolAt.ne {H : Hp} {p D : Addr} (h : PoolAt H p) (hn : H D = none) : D ≠ p := by
  obtain ⟨a, b, c, e⟩ := h
  exact fun z => by rw [z, e] at hn; cases hn
/-- texts of one sign -/
theorem ones_of {S : Nat → Prop} : ∀ zs : List V, (∀ z ∈ zs, ∃ c, z = V.str (Tx [c]) ∧ S c) → ∃ l : List Nat, zs = (l.map fun c => Tx [c]).map V.str ∧ l.length = zs.length ∧ ∀ c ∈ l, S c
  | [], _ => ⟨[], rfl, rfl, fun c hc => by (cases hc)⟩
  | z :: r, h => by
    obtain ⟨c, rfl, hc⟩ := h z List.mem_cons_self
    obtain ⟨l, rfl, h2, h3⟩ := ones_of r fun y hy => h y (List.mem_cons_of_mem _ hy)
    refine ⟨c :: l, rfl, by rw [List.length_cons, List.length_cons, h2], fun d hd => ?_⟩
    rcases List.mem_cons.mp hd with e | e
    · rw [e]; exact hc
    · exact h3 d e
section
variable {P : Program} {w : World} {K : PySem.W.Frag} {mg : Str → Option Value} {base : Heap} {f : Addr} {fd : FuncData}
def spLine : Sp := fun vs H Q _ => ∃ (p : Addr) (k n : Nat), vs = [.ref p, nI k, nI n] ∧ 1 ≤ k ∧ k ≤ 4 ∧ n ≤ 40 ∧ PoolAt H p ∧ ∀ (l : List Nat) H', rowBy k l = true → SameX p H H' → PoolAt H' p → Q (.str (Tx l)) H'
theorem sc__law_line : FnScope ["pool", "k", "most", "way", "signs", "half", "pairs", "sign"] ["pool", "k", "most"] (defScope s__law_line) := ⟨rfl, rfl, rfl, by decide +kernel, rfl, by decide +kernel, by decide +kernel⟩
theorem ok__law_line (T : Txt K mg) (F : FunP K "_law_line" "_law_line" s__law_line f fd) (g__law_draw : Dk P w K mg base CX0 1 "_law_draw" ["pool", "many"] spDraw) (g__law_signs : Dk P w K mg base CX0 1 "_law_signs" ["k"] spSigns)
    (g__law_right_row : Dk P w K mg base CX0 2 "_law_right_row" ["pool", "k", "pairs"] spRightRow) (g__law_bent : Dk P w K mg base CX0 2 "_law_bent" ["pool", "k", "row", "often"] spBent) : FnOk P w K mg base CX0 3 f fd ["pool", "k", "most"] spLine := by
  refine F.ok sc__law_line (fun vs H Q E h => ?_) (fun cdv A outer s H vs Q E hr h => ?_)
  · obtain ⟨p, k, n, rfl, _⟩ := h
    rfl
  · obtain ⟨p, k, n, rfl, k1, k4, hn, hP, q⟩ := h
    refine ⟨_, PSs.nox (pss_cons (ps_set (i := 3) sc__law_line.nd rfl (.inl rfl) (g__law_draw.call hr pass0 (pa_cons (pv 0) (pa_cons pe_int pa_nil))))
       (pss_cons (ps_if (pt_cmpR op_eq (pv 3) pe_int (nomark _))
        (pss_cons (ps_set (i := 4) sc__law_line.nd rfl (.inr rfl) (pe_op op_add_str (g__law_signs.call hr pass0 (pa_cons (pv 1) pa_nil)) pe_str))
       (pss_one (ps_ret (pe_join pe_str (pe_lc (own := [("sign", 7)]) (g := (gName 7)) (tt := _) (by rfl) sc__law_line.nd (pi_range1 rfl T.b_range (pa_cons (g__law_draw.call hr pass0 (pa_cons (pv 0) (pa_cons (pe_op op_add (pv 2) pe_int) pa_nil))) pa_nil)) (blkOk_by (own := [("sign", 7)]) (N := ["pool", "k", "most", "way", "signs", "half", "pairs", "sign"]) (sc := defScope s__law_line) (by decide +kernel)) (fun _ _ _ _ _ => (pg_name (i := 7) sc__law_line.nd rfl (.inl rfl))) (fun _ _ _ _ _ => pts_nil) (fun _ _ _ _ _ => (pe_ix ix_str (pv 4) (g__law_draw.call hr pass0 (pa_cons (pv 0) (pa_cons (pe_op op_add (pe_op op_mul pe_int (pv 1)) pe_int) pa_nil))) (fun _ _ => rfl))))))))
        pss_nil)
       (pss_cons (ps_if (pt_cmpR op_eq (pv 3) pe_int (nomark _))
        (pss_one (ps_ret (pe_op op_mulS pe_str (g__law_draw.call hr pass0 (pa_cons (pv 0) (pa_cons (pe_op op_add (pv 2) pe_int) pa_nil))))))
        pss_nil)
       (pss_cons (ps_set (i := 5) sc__law_line.nd rfl (.inl rfl) (pe_op op_fdiv (pv 2) pe_int))
       (pss_cons (ps_set (i := 6) sc__law_line.nd rfl (.inl rfl) (pe_ix (show IxR _ (rIxL K) from ix_list) (pe_lst (pa_cons (g__law_draw.call hr pass0 (pa_cons (pv 0) (pa_cons (pe_op op_add (pv 5) pe_int) pa_nil))) (pa_cons (g__law_draw.call hr pass0 (pa_cons (pv 0) (pa_cons (pe_callB (call_min2 rfl) (by rfl) T.b_min (by decide +kernel) (pa_cons pe_int (pa_cons (pe_op op_add (pv 5) pe_int) pa_nil))) pa_nil))) (pa_cons (pv 5) pa_nil)))) (g__law_draw.call hr pass0 (pa_cons (pv 0) (pa_cons pe_int pa_nil))) (fun _ _ => rfl)))
       (pss_one (ps_ret (g__law_bent.call hr pass0 (pa_cons (pv 0) (pa_cons (pv 1) (pa_cons (g__law_right_row.call hr pass0 (pa_cons (pv 0) (pa_cons (pv 1) (pa_cons (pv 6) pa_nil)))) (pa_cons (pe_ix (show IxR _ (rIxL K) from ix_list) (pe_lst (pa_cons pe_int (pa_cons pe_int (pa_cons pe_int (pa_cons pe_int (pa_cons pe_int (pa_cons pe_int pa_nil))))))) (g__law_draw.call hr pass0 (pa_cons (pv 0) (pa_cons pe_int pa_nil))) (fun _ _ => rfl)) pa_nil)))))))))))) , ?_⟩
    have ls : (kSgn k).length = 2 * k := kSgn_len k4
    refine ⟨_, rfl, p, 8, rfl, by decide, big_lt (by decide), hP, fun way H1 hway s1 hP1 => ?_⟩
    refine ⟨_, rfl, rfl, _, rfl, ?_⟩
    refine iteB (fun c1 => ?_) (fun c1 => ?_)
    · refine ⟨_, rfl, k, rfl, k4, _, _, rfl, rfl, ?_, ?_⟩
      · rw [Tx_len, ls]
        exact sl_le (by show _ + 3 ≤ _; omega)
      have e63 : Tx (kSgn k) ++ Str.ofString "???" = Tx (kSgn k ++ [63, 63, 63]) := Tx_app _ _
      rw [e63]
      have ls3 : (kSgn k ++ [63, 63, 63]).length = 2 * k + 3 := by
        rw [List.length_append, ls]
        rfl
      refine ⟨⟨_, rfl⟩, _, rfl, _, rfl, _, _, rfl, rfl, p, n + 1, congrArg (fun z => [V.ref p, V.int z]) (by omega), by omega, big_lt (by omega), hP1, fun r H2 hr s2 hP2 => ⟨_, rfl, by omega, by omega, fun D hD => ?_⟩⟩
      refine lcA (n := r) walk_range (fun z => ∃ c, z = V.str (Tx [c]) ∧ c ∈ kSet k ++ [63]) hD hP2 (by omega) (fun _ _ => trivial) (fun i x H3 H4 hi s3 hP3 hY N hN => ?_) (fun zs H3 s3 hP3 z1 z2 z3 => ?_)
      · obtain ⟨rfl, hx⟩ := hY
        refine ⟨rfl, ?_⟩
        refine ⟨_, rfl, _, rfl, _, rfl, _, _, rfl, rfl, .inl ⟨by decide, by decide⟩, _, _, rfl, rfl, p, 2 * k + 3, congrArg (fun z => [V.ref p, V.int z]) (by omega), by omega, big_lt (by omega), hP3, fun r2 H5 hr2 s5 hP5 => ?_⟩
        have kc : (kSgn k ++ [63, 63, 63]).getD r2 0 ∈ kSet k ++ [63] := by
          have hm1 : (kSgn k ++ [63, 63, 63]).getD r2 0 ∈ kSgn k ++ [63, 63, 63] := List.mem_of_getElem? (getD_at (by omega))
          rcases List.mem_append.mp hm1 with z | z
          · exact List.mem_append_left _ ((kSgn_mem k4 _).mp z)
          · refine List.mem_append_right _ ?_
            have h3 : ∀ c ∈ [63, 63, 63], c ∈ [63] := by decide
            exact h3 _ z
        exact ⟨_, _, _, rfl, rfl, by rw [Tx_len, ls3]; exact sl_le (by omega), at_tx (j := r2) (getD_at (by omega)), hN _ _ ⟨_, rfl, kc⟩ s5 hP5⟩
      · obtain ⟨l, rfl, l2, l3⟩ := ones_of zs z2
        have hl : l.length ≤ n := by omega
        refine ⟨Tx [], D, l.map fun c => Tx [c], rfl, rfl, .inl (.inl (.inl z3)), ?_, ?_⟩
        · rw [len_ones (f := fun c => c), Tx_len]
          show l.length + _ * 0 ≤ _
          omega
        · rw [joinT_one (fun c => c), List.map_id']
          exact q l H3 (KQ.row l3 (by omega)) ((s1.trans s2).trans s3) hP3
    · refine ⟨_, rfl, rfl, _, rfl, ?_⟩
      refine iteB (fun c2 => ?_) (fun c2 => ?_)
      · refine ⟨_, rfl, _, rfl, _, _, rfl, rfl, p, n + 1, congrArg (fun z => [V.ref p, V.int z]) (by omega), by omega, big_lt (by omega), hP1, fun r H2 hr s2 hP2 => ⟨[63], r, rfl, rfl, by omega, by show 1 * r ≤ _; omega, ?_⟩⟩
        have e : (List.replicate r [63]).flatten = List.replicate r 63 := by
          rw [List.flatten_replicate_singleton]
        rw [e]
        refine q _ H2 (KQ.row (fun c hc => ?_) (by rw [List.length_replicate]; omega)) (s1.trans s2) hP2
        rw [(List.mem_replicate.mp hc).2]
        exact q_mem k
      · refine ⟨_, rfl, _, _, rfl, rfl, ⟨by decide, by decide⟩, ?_⟩
        have eh : ((n : Int) / 2) = ((n / 2 : Nat) : Int) := by omega
        show gName 5 (V.int ((n : Int) / 2)) _ _ _
        rw [eh]
        obtain ⟨h, hh⟩ : ∃ h, h = n / 2 := ⟨_, rfl⟩
        rw [← hh]
        have em : (if ((h : Int) + 1) < 5 then ((h : Int) + 1) else 5) = ((min 5 (h + 1) : Nat) : Int) := by
          split <;> omega
        have eh1 : ((h : Int) + 1) = ((h + 1 : Nat) : Int) := by omega
        refine ⟨_, rfl, _, rfl, _, _, rfl, rfl, p, h + 1, congrArg (fun z => [V.ref p, V.int z]) eh1, by omega, big_lt (by omega), hP1, fun r1 H2 hr1 s2 hP2 => ?_⟩
        refine ⟨_, rfl, _, rfl, _, _, rfl, rfl, _, _, rfl, p, min 5 (h + 1), congrArg (fun z => [V.ref p, V.int z]) em, by omega, big_lt (by omega), hP2, fun r2 H3 hr2 s3 hP3 => ?_⟩
        refine ⟨_, rfl, by show 3 ≤ sizeLine; decide, fun D hD => ?_⟩
        have eD : (upd H3 D (.lst [nI r1, nI r2, nI h])) D = some (.lst [nI r1, nI r2, nI h]) := upd_same
        have sD : Same H3 (upd H3 D (.lst [nI r1, nI r2, nI h])) := same_upd hD
        have npD : D ≠ p := PoolAt.ne hP3 hD
        refine ⟨_, rfl, p, 3, rfl, by decide, big_lt (by decide), hP3.same sD, fun r3 H4 hr3 s4 hP4 => ?_⟩
        obtain ⟨v, v1, v2⟩ : ∃ v : Nat, [nI r1, nI r2, nI h][r3]? = some (nI v) ∧ v ≤ h := by
          match r3, hr3 with
          | 0, _ => exact ⟨r1, rfl, by omega⟩
          | 1, _ => exact ⟨r2, rfl, by omega⟩
          | 2, _ => exact ⟨h, rfl, Nat.le_refl _⟩
        refine ⟨D, _, _, _, rfl, rfl, .inl (.inl (s4 _ _ npD eD)), atI_nat (j := r3) v1, ?_⟩
        have s14 : SameX p H H4 := (((s1.trans s2).trans s3).trans (sameX sD)).trans s4
        refine ⟨_, rfl, _, rfl, _, rfl, _, rfl, _, rfl, p, k, v, rfl, k1, k4, by omega, hP4, fun l H5 hl5 kl s5 hP5 => ?_⟩
        refine ⟨by show 6 ≤ sizeLine; decide, fun G hG => ?_⟩
        have eG : (upd H5 G (.lst [nI 0, nI 2, nI 3, nI 5, nI 9, nI 1])) G = some (.lst [nI 0, nI 2, nI 3, nI 5, nI 9, nI 1]) := upd_same
        have sG : Same H5 (upd H5 G (.lst [nI 0, nI 2, nI 3, nI 5, nI 9, nI 1])) := same_upd hG
        have npG : G ≠ p := PoolAt.ne hP5 hG
        refine ⟨_, rfl, p, 6, rfl, by decide, big_lt (by decide), hP5.same sG, fun r6 H6 hr6 s6 hP6 => ?_⟩
        obtain ⟨o, o1, o2⟩ : ∃ o : Nat, [nI 0, nI 2, nI 3, nI 5, nI 9, nI 1][r6]? = some (nI o) ∧ o ≤ 10 := by
          match r6, hr6 with
          | 0, _ => exact ⟨_, rfl, by decide⟩
          | 1, _ => exact ⟨_, rfl, by decide⟩
          | 2, _ => exact ⟨_, rfl, by decide⟩
          | 3, _ => exact ⟨_, rfl, by decide⟩
          | 4, _ => exact ⟨_, rfl, by decide⟩
          | 5, _ => exact ⟨_, rfl, by decide⟩
        refine ⟨G, _, _, _, rfl, rfl, .inl (.inl (s6 _ _ npG eG)), atI_nat (j := r6) o1, ?_⟩
        refine ⟨p, k, o, l, rfl, k1, k4, o2, by omega, kl, hP6, fun m H7 hm7 km s7 hP7 => ?_⟩
        exact q m H7 (km.row (by omega)) ((((s14.trans s5).trans (sameX sG)).trans s6).trans s7) hP7
end
end BR
set_option Elab.async false
set_option linter.all false
set_option maxRecDepth 100000
set_option maxHeartbeats 4000000
/-! L5: the law's helpers: names -/
namespace BR
open PySem PySem.Spec PyProof.Rows L2
/-- letters alone, not many -/
def LW (l : List Nat) : Prop := (∀ c ∈ l, c ∈ lLET) ∧ l.length ≤ 20
theorem LW.of {l m : List Nat} (h : ∀ c ∈ l, c ∈ lLET) (n : l.length ≤ 20) : LW l := ⟨h, n⟩
theorem LW.nm {l : List Nat} (h : LW l) (h1 : 1 ≤ l.length) (h2 : l.length ≤ 8) : nmOk l = true := by
  unfold nmOk
  exact Bool.and_eq_true_iff.mpr ⟨Bool.and_eq_true_iff.mpr ⟨decide_eq_true h1, decide_eq_true h2⟩, List.all_eq_true.mpr fun c hc => decide_eq_true (h.1 c hc)⟩
theorem wV_flat (ws : List (List Nat)) : (wV ws).all flatV = true := by
  unfold wV
  rw [List.all_map]
  exact List.all_eq_true.mpr fun _ _ => rfl
theorem wV_len (ws : List (List Nat)) : (wV ws).length = ws.length := List.length_map ..
theorem wV_app (a b : List (List Nat)) : wV a ++ wV b = wV (a ++ b) := (List.map_append ..).symm
theorem inV_wV (l : List Nat) : ∀ ws : List (List Nat), inV (V.str (Tx l)) (wV ws) = decide (l ∈ ws)
  | [] => rfl
  | w :: r => by
    have ih := inV_wV l r
    show (eqV (V.str (Tx w)) (V.str (Tx l)) || inV (V.str (Tx l)) (wV r)) = _
    rw [ih]
    show (decide (Tx w = Tx l) || decide (l ∈ r)) = _
    by_cases e : l = w
    · rw [e]
      simp
    · have h1 : ¬ Tx w = Tx l := fun z => e (Tx_inj z).symm
      rw [decide_eq_false h1, Bool.false_or]
      refine decide_eq_decide.mpr ⟨List.mem_cons_of_mem _, fun z => ?_⟩
      rcases List.mem_cons.mp z with z | z
      · exact absurd z e
      · exact z
def lOwn : List (List Nat) := [Wt "qx", Wt "qy", Wt "qxqy", Wt "zzzzzzzz", Wt "x"]
section
variable {P : Program} {w : World} {K : PySem.W.Frag} {mg : Str → Option Value} {base : Heap} {f : Addr} {fd : FuncData}
def spNames : Sp := fun vs H Q _ => ∃ p : Addr, vs = [.ref p] ∧ PoolAt H p ∧ ∀ (ns : List (List Nat)) H' D, 1 ≤ ns.length → ns.length ≤ 10 → (∀ n ∈ ns, nmOk n = true) → SameX p H H' → PoolAt H' p → H D = none → H' D = some (.lst (wV ns)) → Q (.ref D) H'
theorem sc__law_names : FnScope ["pool", "letters", "word", "at", "letter", "more", "whole", "found", "one", "k"] ["pool"] (defScope s__law_names) := ⟨rfl, rfl, rfl, by decide +kernel, rfl, by decide +kernel, by decide +kernel⟩
theorem ok__law_names (T : Txt K mg) (F : FunP K "_law_names" "_law_names" s__law_names f fd) (g__law_draw : Dk P w K mg base CX0 1 "_law_draw" ["pool", "many"] spDraw) : FnOk P w K mg base CX0 2 f fd ["pool"] spNames := by
  refine F.ok sc__law_names (fun vs H Q E h => ?_) (fun cdv A outer s H vs Q E hr h => ?_)
  · obtain ⟨p, rfl, _⟩ := h
    rfl
  · obtain ⟨p, rfl, hP, q⟩ := h
    refine ⟨_, PSs.nox (pss_cons (ps_set (i := 1) sc__law_names.nd rfl (.inr rfl) pe_str)
       (pss_cons (ps_set (i := 2) sc__law_names.nd rfl (.inl rfl) (pe_join pe_str (pe_lc (own := [("k", 9)]) (g := (gName 9)) (tt := _) (by rfl) sc__law_names.nd (pi_range1 rfl T.b_range (pa_cons (pe_op op_add pe_int (g__law_draw.call hr pass0 (pa_cons (pv 0) (pa_cons pe_int pa_nil)))) pa_nil)) (blkOk_by (own := [("k", 9)]) (N := ["pool", "letters", "word", "at", "letter", "more", "whole", "found", "one", "k"]) (sc := defScope s__law_names) (by decide +kernel)) (fun _ _ _ _ _ => (pg_name (i := 9) sc__law_names.nd rfl (.inl rfl))) (fun _ _ _ _ _ => pts_nil) (fun _ _ _ _ _ => (pe_ix ix_str (pv 1) (g__law_draw.call hr pass0 (pa_cons (pv 0) (pa_cons pe_int pa_nil))) (fun _ _ => rfl))))))
       (pss_cons (ps_set (i := 3) sc__law_names.nd rfl (.inl rfl) (g__law_draw.call hr pass0 (pa_cons (pv 0) (pa_cons (pe_callB call_len_str (by rfl) T.b_len (by decide +kernel) (pa_cons (pv 2) pa_nil)) pa_nil))))
       (pss_cons (ps_set (i := 4) sc__law_names.nd rfl (.inl rfl) (pe_ix ix_str (pv 1) (g__law_draw.call hr pass0 (pa_cons (pv 0) (pa_cons pe_int pa_nil))) (fun _ _ => rfl)))
       (pss_cons (ps_set (i := 5) sc__law_names.nd rfl (.inl rfl) (pe_lst (pa_cons (pv 2) (pa_cons (pe_op op_add_str (pv 2) (pv 4)) (pa_cons (pe_op op_add_str (pv 4) (pv 2)) (pa_cons (pe_op op_add_str (pe_op op_add_str (pe_slice sl_str (pv 2) po_none (po_some (pv 3))) (pv 4)) (pe_slice sl_str (pv 2) (po_some (pe_op op_add (pv 3) pe_int)) po_none)) pa_nil))))))
       (pss_cons (ps_expr (pe_bm PySem.F.plainAttrs_list PySem.F.slot_list_append PySem.F.type_list_append mt_append (pv 5) (pa_cons (pe_ix (show IxR _ (rIxL K) from ix_list) (pe_lst (pa_cons pe_str (pa_cons pe_str (pa_cons pe_str (pa_cons pe_str (pa_cons pe_str (pa_cons pe_str (pa_cons pe_str (pa_cons pe_str pa_nil))))))))) (g__law_draw.call hr pass0 (pa_cons (pv 0) (pa_cons pe_int pa_nil))) (fun _ _ => rfl)) pa_nil)))
       (pss_cons (ps_if (pt_cmpR op_eq (g__law_draw.call hr pass0 (pa_cons (pv 0) (pa_cons pe_int pa_nil))) pe_int (nomark _))
        (pss_cons (ps_set (i := 6) sc__law_names.nd rfl (.inl rfl) (pe_op op_add_str (pe_op op_add_str (pv 2) (pv 4)) pe_str))
       (pss_one (ps_set (i := 5) sc__law_names.nd rfl (.inl rfl) (pe_lst (pa_cons (pe_slice sl_str (pv 6) po_none (po_some pe_int)) (pa_cons (pe_slice sl_str (pv 6) (po_some pe_int) po_none) (pa_cons (pe_slice sl_str (pv 6) po_none (po_some pe_int)) (pa_cons (pe_slice sl_str (pv 6) (po_some pe_int) po_none) (pa_cons pe_str pa_nil)))))))))
        pss_nil)
       (pss_cons (ps_set (i := 7) sc__law_names.nd rfl (.inl rfl) (pe_lst pa_nil))
       (pss_cons (ps_for PassesOwn.never rfl (pi_list (pe_op op_cat (pv 5) (pe_lst (pa_cons pe_str (pa_cons pe_str (pa_cons pe_str (pa_cons pe_str (pa_cons pe_str pa_nil)))))))) (pg_name (i := 8) sc__law_names.nd rfl (.inl rfl))
        (pss_one (ps_if (PW.pt (pw_and (pt_chain op_le op_le pe_int (pe_callB call_len_str (by rfl) T.b_len (by decide +kernel) (pa_cons (pv 8) pa_nil)) pe_int) (pw_and1 (pt_cmpR op_notIn_seq (pv 8) (pv 7) rfl))))
        (pss_one (ps_expr (pe_bm PySem.F.plainAttrs_list PySem.F.slot_list_append PySem.F.type_list_append mt_append (pv 7) (pa_cons (pv 8) pa_nil))))
        pss_nil)))
       (pss_one (ps_ret (pe_slice sl_list (pv 7) po_none (po_some (pe_ix (show IxR _ (rIxL K) from ix_list) (pe_lst (pa_cons pe_int (pa_cons pe_int pa_nil))) (pe_callTy call_int1 (by rfl) T.b_int (by decide +kernel) (pa_cons (pe_cmpR op_eq (g__law_draw.call hr pass0 (pa_cons (pv 0) (pa_cons pe_int pa_nil))) pe_int (nomark _)) pa_nil)) (fun _ _ => rfl))))))))))))))) , ?_⟩
    have eLt : Str.ofString "abcdefghijklmnopqrstuvwxyz" = Tx lLET := rfl
    have lenLt : lLET.length = 26 := rfl
    -- word
    refine ⟨⟨_, rfl⟩, _, rfl, p, 7, rfl, by decide, big_lt (by decide), hP, fun r H1 hr s1 hP1 => ⟨_, _, rfl, rfl, ((r + 1 : Nat) : Int), congrArg (fun z => [V.int z]) (by omega), by omega, by omega, fun D hD => ?_⟩⟩
    refine lcA (n := r + 1) walk_range (fun z => ∃ c, z = V.str (Tx [c]) ∧ c ∈ lLET) hD hP1 (by omega) (fun _ _ => trivial) (fun i x H3 H4 hi s3 hP3 hY N hN => ?_) (fun zs H3 s3 hP3 z1 z2 z3 => ?_)
    · obtain ⟨rfl, hx⟩ := hY
      refine ⟨rfl, ?_⟩
      refine ⟨_, rfl, _, rfl, p, 26, rfl, by decide, big_lt (by decide), hP3, fun r2 H5 hr2 s5 hP5 => ?_⟩
      exact ⟨_, _, _, rfl, rfl, by decide, at_tx (l := lLET) (j := r2) (getD_at (by omega)), hN _ _ ⟨_, rfl, List.mem_of_getElem? (getD_at (by omega))⟩ s5 hP5⟩
    obtain ⟨l, rfl, l2, l3⟩ := ones_of zs z2
    have hl1 : 1 ≤ l.length := by omega
    have hl7 : l.length ≤ 7 := by omega
    refine ⟨Tx [], D, l.map fun c => Tx [c], rfl, rfl, .inl (.inl (.inl z3)), ?_, ?_⟩
    · rw [len_ones (f := fun c => c), Tx_len]
      show l.length + _ * 0 ≤ _
      omega
    rw [joinT_one (fun c => c), List.map_id']
    have s13 : SameX p H H3 := s1.trans s3
    have hln : (Tx l).length ≤ sizeLine := by rw [Tx_len]; exact sl_le (by omega)
    -- at, letter
    refine ⟨_, rfl, _, rfl, _, rfl, hln, ?_⟩
    rw [Tx_len]
    refine ⟨p, l.length, rfl, hl1, big_lt (by omega), hP3, fun at_ H4 hat s4 hP4 => ?_⟩
    refine ⟨_, rfl, _, rfl, p, 26, rfl, by decide, big_lt (by decide), hP4, fun r2 H5 hr2 s5 hP5 => ?_⟩
    refine ⟨_, _, _, rfl, rfl, by decide, at_tx (l := lLET) (j := r2) (getD_at (by omega)), ?_⟩
    have kc : lLET.getD r2 0 ∈ lLET := List.mem_of_getElem? (getD_at (by omega))
    generalize lLET.getD r2 0 = c at kc ⊢
    have ea : ((at_ : Int) + 1) = ((at_ + 1 : Nat) : Int) := by omega
    have eS1 : cutS (Tx l) none (some (at_ : Int)) ++ Tx [c] = Tx (l.take at_ ++ [c]) := by rw [cutS_to, Tx_app]
    have eS2 : cutS (Tx l) (some ((at_ : Int) + 1)) none = Tx (l.drop (at_ + 1)) := by rw [ea, cutS_from]
    -- more
    refine ⟨_, rfl, _, rfl, _, rfl, _, _, rfl, rfl, ?_, _, rfl, _, rfl, _, _, rfl, rfl, ?_, _, rfl, _, rfl, _, rfl, _, rfl, hln, _, rfl, _, _, rfl, rfl, ?_, _, rfl, _, rfl, _, _, rfl, rfl, _, rfl, _, rfl, hln, _, _, rfl, rfl, ?_, ?_⟩
    · show (Tx l).length + (Tx [c]).length ≤ _
      rw [Tx_len, Tx_len]
      exact sl_le (by show _ + 1 ≤ _; omega)
    · show (Tx [c]).length + (Tx l).length ≤ _
      rw [Tx_len, Tx_len]
      exact sl_le (by show 1 + _ ≤ _; omega)
    · show (cutS (Tx l) none (some (at_ : Int))).length + (Tx [c]).length ≤ _
      rw [cutS_to, Tx_len, Tx_len, List.length_take]
      exact sl_le (by show _ + 1 ≤ _; omega)
    · show (cutS (Tx l) none (some (at_ : Int)) ++ Tx [c]).length + (cutS (Tx l) (some ((at_ : Int) + 1)) none).length ≤ _
      rw [eS1, eS2, Tx_len, Tx_len, List.length_append, List.length_take, List.length_drop]
      exact sl_le (by show _ + 1 + _ ≤ _; omega)
    refine ⟨by show 4 ≤ sizeLine; decide, fun M hM => ?_⟩
    have eW : [V.str (Tx l), V.str (Tx l ++ Tx [c]), V.str (Tx [c] ++ Tx l), V.str (cutS (Tx l) none (some (at_ : Int)) ++ Tx [c] ++ cutS (Tx l) (some ((at_ : Int) + 1)) none)] = wV [l, l ++ [c], [c] ++ l, l.take at_ ++ [c] ++ l.drop (at_ + 1)] := by
      rw [eS1, eS2, Tx_app, Tx_app, Tx_app]
      rfl
    have lwl : ∀ d ∈ l, d ∈ lLET := l3
    have lwc : ∀ d ∈ [c], d ∈ lLET := fun d hd => by rw [List.mem_singleton.mp hd]; exact kc
    have ltk : ∀ d ∈ l.take at_, d ∈ lLET := fun d hd => l3 d (List.mem_of_mem_take hd)
    have ldp : ∀ d ∈ l.drop (at_ + 1), d ∈ lLET := fun d hd => l3 d (List.mem_of_mem_drop hd)
    have mem2 : ∀ {a b : List Nat}, (∀ d ∈ a, d ∈ lLET) → (∀ d ∈ b, d ∈ lLET) → ∀ d ∈ a ++ b, d ∈ lLET := fun ha hb d hd => (List.mem_append.mp hd).elim (ha d) (hb d)
    have lc1 : [c].length = 1 := rfl
    have lws : ∀ x ∈ [l, l ++ [c], [c] ++ l, l.take at_ ++ [c] ++ l.drop (at_ + 1)], LW x := fun x hx => by
      simp only [List.mem_cons, List.mem_nil_iff, or_false] at hx
      rcases hx with rfl | rfl | rfl | rfl
      · exact ⟨lwl, by omega⟩
      · exact ⟨mem2 lwl lwc, by rw [List.length_append, lc1]; omega⟩
      · exact ⟨mem2 lwc lwl, by rw [List.length_append, lc1]; omega⟩
      · exact ⟨mem2 (mem2 ltk lwc) ldp, by rw [List.length_append, List.length_append, lc1, List.length_take, List.length_drop]; omega⟩
    have sM : Same H5 (upd H5 M (.lst [V.str (Tx l), V.str (Tx l ++ Tx [c]), V.str (Tx [c] ++ Tx l), V.str (cutS (Tx l) none (some (at_ : Int)) ++ Tx [c] ++ cutS (Tx l) (some ((at_ : Int) + 1)) none)])) := same_upd hM
    have eM : (upd H5 M (.lst [V.str (Tx l), V.str (Tx l ++ Tx [c]), V.str (Tx [c] ++ Tx l), V.str (cutS (Tx l) none (some (at_ : Int)) ++ Tx [c] ++ cutS (Tx l) (some ((at_ : Int) + 1)) none)])) M = some (.lst (wV [l, l ++ [c], [c] ++ l, l.take at_ ++ [c] ++ l.drop (at_ + 1)])) := by
      rw [← eW]
      exact upd_same
    have npM : M ≠ p := hP5.ne hM
    have hP6 := hP5.same sM
    have s16 := (((s13.trans s4).trans s5).trans (sameX sM))
    have lw4 : [l, l ++ [c], [c] ++ l, l.take at_ ++ [c] ++ l.drop (at_ + 1)].length = 4 := rfl
    generalize [l, l ++ [c], [c] ++ l, l.take at_ ++ [c] ++ l.drop (at_ + 1)] = ws at eM lws lw4
    -- more.append
    refine ⟨_, rfl, tyL eM, by show 8 ≤ sizeLine; decide, fun G hG => ?_⟩
    have sG := same_upd (o := .lst (wV [Wt "none", Wt "row", Wt "names", Wt "show", Wt "turn", Wt "kinds", Wt "drop", Wt "many"])) hG
    have lw8 : ∀ x ∈ [Wt "none", Wt "row", Wt "names", Wt "show", Wt "turn", Wt "kinds", Wt "drop", Wt "many"], (∀ c ∈ x, c ∈ lLET) ∧ x.length ≤ 20 := by decide +kernel
    refine ⟨_, rfl, p, 8, rfl, by decide, big_lt (by decide), hP6.same sG, fun r8 H6 hr8 s6 hP7 => ?_⟩
    have npG : G ≠ p := hP6.ne hG
    have eM6 := s6 _ _ npM (sG _ _ eM)
    have eG6 := s6 G (.lst (wV [Wt "none", Wt "row", Wt "names", Wt "show", Wt "turn", Wt "kinds", Wt "drop", Wt "many"])) npG upd_same
    have lw1 := lw8 _ (getD_mem (ws := [Wt "none", Wt "row", Wt "names", Wt "show", Wt "turn", Wt "kinds", Wt "drop", Wt "many"]) (i := r8) (by show r8 < 8; omega))
    refine ⟨G, _, _, _, rfl, rfl, .inl (.inl eG6), atI_nat (j := r8) (wV_at (by show r8 < 8; omega)), M, _, _, rfl, rfl, eM6, by rw [wV_len]; exact sl_lt (by omega), ?_⟩
    generalize [Wt "none", Wt "row", Wt "names", Wt "show", Wt "turn", Wt "kinds", Wt "drop", Wt "many"].getD r8 [] = w1 at lw1
    have eM7 : (upd H6 M (.lst (wV ws ++ [V.str (Tx w1)]))) M = some (.lst (wV (ws ++ [w1]))) := by
      rw [← wV_app]
      exact upd_same
    have k67 : ∀ {x : Addr} {o : HO}, H x = some o → x ≠ p → (upd H6 M (.lst (wV ws ++ [V.str (Tx w1)]))) x = some o := fun {x o} e n => by
      have e5 := (((s13.trans s4).trans s5)) _ _ n e
      have nx : x ≠ M := ne_of_none e5 hM
      rw [upd_ne nx]
      exact s6 _ _ n (sG _ _ (sM _ _ e5))
    have s7 : SameX p H (upd H6 M (.lst (wV ws ++ [V.str (Tx w1)]))) := fun x o n e => k67 e n
    have hP8 : PoolAt (upd H6 M (.lst (wV ws ++ [V.str (Tx w1)]))) p := by
      obtain ⟨a, b, d, e⟩ := hP7
      exact ⟨a, b, d, (upd_ne npM.symm).trans e⟩
    have lws2 : ∀ x ∈ ws ++ [w1], LW x := fun x hx => (List.mem_append.mp hx).elim (lws x) fun z => by rw [List.mem_singleton.mp z]; exact lw1
    have lw5 : (ws ++ [w1]).length = 5 := by rw [List.length_append, lw4]; rfl
    generalize ws ++ [w1] = ws2 at eM7 lws2 lw5
    generalize upd H6 M (.lst (wV ws ++ [V.str (Tx w1)])) = H7 at eM7 s7 hP8 ⊢
    -- if
    refine ⟨_, rfl, p, 4, rfl, by decide, big_lt (by decide), hP8, fun r4 H8 hr4 s8 hP9 => ⟨rfl, _, rfl, ?_⟩⟩
    have eM8 := s8 _ _ npM eM7
    have s08 := s7.trans s8
    refine iteB (fun c4 => ?_) (fun c4 => ?_)
    · -- the other words
      refine ⟨_, rfl, _, rfl, _, _, rfl, rfl, ?_, _, _, rfl, rfl, ?_, ?_⟩
      · show (Tx l).length + (Tx [c]).length ≤ _
        rw [Tx_len, Tx_len]
        exact sl_le (by show _ + 1 ≤ _; omega)
      · show (Tx l ++ Tx [c]).length + 1 ≤ _
        rw [Tx_app, Tx_len, List.length_append]
        exact sl_le (by show _ + 1 + 1 ≤ _; omega)
      have eB : Tx l ++ Tx [c] ++ Str.ofString "b" = Tx (l ++ [c] ++ [98]) := by
        have : Str.ofString "b" = Tx [98] := rfl
        rw [this, Tx_app, Tx_app]
      show gName 6 (V.str (Tx l ++ Tx [c] ++ Str.ofString "b")) _ _ _
      rw [eB]
      have lwh : ∀ d ∈ l ++ [c] ++ [98], d ∈ lLET := mem2 (mem2 lwl lwc) (by decide)
      have lwn : (l ++ [c] ++ [98]).length ≤ 9 := by
        rw [List.length_append, List.length_append]
        show _ + 1 + 1 ≤ _
        omega
      generalize l ++ [c] ++ [98] = wh at lwh lwn ⊢
      have hwn : (Tx wh).length ≤ sizeLine := by rw [Tx_len]; exact sl_le (by omega)
      refine ⟨_, rfl, _, rfl, _, rfl, hwn, _, rfl, _, rfl, _, rfl, hwn, ?_⟩
      refine ⟨_, rfl, _, rfl, _, rfl, hwn, _, rfl, _, rfl, _, rfl, hwn, by show 5 ≤ sizeLine; decide, fun N hN => ?_⟩
      have eN : (upd H8 N (.lst [V.str (cutS (Tx wh) none (some 1)), V.str (cutS (Tx wh) (some 1) none), V.str (cutS (Tx wh) none (some 2)), V.str (cutS (Tx wh) (some 2) none), V.str (Str.ofString "none")])) N = some (.lst (wV [wh.take 1, wh.drop 1, wh.take 2, wh.drop 2, Wt "none"])) := by
        rw [upd_same]
        show some (HO.lst [V.str (cutS (Tx wh) none (some ((1 : Nat) : Int))), V.str (cutS (Tx wh) (some ((1 : Nat) : Int)) none), V.str (cutS (Tx wh) none (some ((2 : Nat) : Int))), V.str (cutS (Tx wh) (some ((2 : Nat) : Int)) none), V.str (Str.ofString "none")]) = _
        rw [cutS_to, cutS_from, cutS_to, cutS_from]
        rfl
      have sN : Same H8 (upd H8 N (.lst [V.str (cutS (Tx wh) none (some 1)), V.str (cutS (Tx wh) (some 1) none), V.str (cutS (Tx wh) none (some 2)), V.str (cutS (Tx wh) (some 2) none), V.str (Str.ofString "none")])) := same_upd hN
      have lwN : ∀ x ∈ [wh.take 1, wh.drop 1, wh.take 2, wh.drop 2, Wt "none"], LW x := fun x hx => by
        have htk : ∀ i, LW (wh.take i) := fun i => ⟨fun d hd => lwh d (List.mem_of_mem_take hd), by rw [List.length_take]; omega⟩
        have hdp : ∀ i, LW (wh.drop i) := fun i => ⟨fun d hd => lwh d (List.mem_of_mem_drop hd), by rw [List.length_drop]; omega⟩
        simp only [List.mem_cons, List.mem_nil_iff, or_false] at hx
        rcases hx with rfl | rfl | rfl | rfl | rfl
        · exact htk 1
        · exact hdp 1
        · exact htk 2
        · exact hdp 2
        · exact ⟨by decide +kernel, by decide +kernel⟩
      have hPN := hP9.same sN
      have sN8 := s08.trans (sameX sN)
      have lwN5 : [wh.take 1, wh.drop 1, wh.take 2, wh.drop 2, Wt "none"].length = 5 := rfl
      generalize [wh.take 1, wh.drop 1, wh.take 2, wh.drop 2, Wt "none"] = ws3 at eN lwN lwN5
      generalize upd H8 N (.lst [V.str (cutS (Tx wh) none (some 1)), V.str (cutS (Tx wh) (some 1) none), V.str (cutS (Tx wh) none (some 2)), V.str (cutS (Tx wh) (some 2) none), V.str (Str.ofString "none")]) = HN at eN sN hPN sN8 ⊢
      refine ⟨Nat.zero_le _, fun F hF => ?_⟩
      have eF : (upd HN F (.lst [])) F = some (.lst (wV [])) := upd_same
      have sF : Same HN (upd HN F (.lst [])) := same_upd hF
      have npF : F ≠ p := PoolAt.ne hPN hF
      have hPF := PoolAt.same hPN sF
      have eMF := sF _ _ eN
      have s0F := SameX.trans sN8 (sameX sF)
      have hHF : H F = none := SameX.free sN8 npF hF
      generalize upd HN F (.lst []) = HF at eF sF hPF eMF s0F ⊢
      refine ⟨_, rfl, by show 5 ≤ sizeLine; decide, fun G2 hG2 => ?_⟩
      have eG2 : (upd HF G2 (.lst [V.str (Str.ofString "qx"), V.str (Str.ofString "qy"), V.str (Str.ofString "qxqy"), V.str (Str.ofString "zzzzzzzz"), V.str (Str.ofString "x")])) G2 = some (.lst (wV lOwn)) := upd_same
      have sG2 : Same HF (upd HF G2 (.lst [V.str (Str.ofString "qx"), V.str (Str.ofString "qy"), V.str (Str.ofString "qxqy"), V.str (Str.ofString "zzzzzzzz"), V.str (Str.ofString "x")])) := same_upd hG2
      generalize upd HF G2 (.lst [V.str (Str.ofString "qx"), V.str (Str.ofString "qy"), V.str (Str.ofString "qxqy"), V.str (Str.ofString "zzzzzzzz"), V.str (Str.ofString "x")]) = HG at eG2 sG2 ⊢
      refine ⟨N, G2, _, _, rfl, rfl, sG2 _ _ eMF, eG2, by rw [wV_len, wV_len, lwN5]; exact sl_le (by decide), fun C hC => ?_⟩
      have eC : (upd HG C (.lst (wV ws3 ++ wV lOwn))) C = some (.lst (wV (ws3 ++ lOwn))) := by
        rw [← wV_app]
        exact upd_same
      have sC : Same HG (upd HG C (.lst (wV ws3 ++ wV lOwn))) := same_upd hC
      have nFC : F ≠ C := ne_of_none (sG2 _ _ eF) hC
      have npC : C ≠ p := PoolAt.ne (hPF.same sG2) hC
      have eFC := sC _ _ (sG2 _ _ eF)
      have sHC := (s0F.trans (sameX sG2)).trans (sameX sC)
      have hPC := (hPF.same sG2).same sC
      generalize upd HG C (.lst (wV ws3 ++ wV lOwn)) = HC at eC sC eFC sHC hPC ⊢
      have lwC : ∀ x ∈ ws3 ++ lOwn, LW x := fun x hx => by
        have ho : ∀ x ∈ lOwn, (∀ c ∈ x, c ∈ lLET) ∧ x.length ≤ 20 := by decide +kernel
        exact (List.mem_append.mp hx).elim (lwN x) (ho x)
      refine ⟨C, rfl, ⟨_, .inl (.inl eC)⟩, ?_⟩
      refine for_it (walk_list (a := C) (xs := wV (ws3 ++ lOwn))) (fun i σ H' => ∃ (y8 : Option V) (fs : List (List Nat)), σ = [some (.ref p), some (V.str (Str.ofString "abcdefghijklmnopqrstuvwxyz")), some (V.str (Tx l)), some (nI at_), some (V.str (Tx [c])), some (.ref N), some (V.str (Tx wh)), some (.ref F), y8, none] ∧
          H' F = some (.lst (wV fs)) ∧ fs.length ≤ i ∧ (∀ n ∈ fs, nmOk n = true) ∧ (5 < i → 1 ≤ fs.length) ∧ SameX p H H' ∧ PoolAt H' p ∧ H' C = some (.lst (wV (ws3 ++ lOwn))))
        ⟨none, [], rfl, eFC, Nat.le_refl _, fun n hn => (by cases hn), fun z => (by omega), sHC, hPC, eC⟩ (fun i σ H' _ hv => ?_) (fun i x σ H2 H3' hi hv hY => ?_) (fun σ H2 hv => ?_)
      · obtain ⟨y8, fs, _, _, _, _, _, _, _, e⟩ := hv
        exact .inl (.inl e)
      · obtain ⟨y8, fs, rfl, eF2, lf, of, pf, s2, hP2, eC2⟩ := hv
        obtain ⟨rfl, hx⟩ := hY
        have hiw : i < (ws3 ++ lOwn).length := by rw [← wV_len]; exact hi
        have ea : x = V.str (Tx ((ws3 ++ lOwn).getD i [])) := by
          have h1 := wV_at hiw
          rw [hx] at h1
          exact Option.some.inj h1
        have la := lwC _ (getD_mem hiw)
        have hqx : i = 5 → (ws3 ++ lOwn).getD i [] = Wt "qx" := fun z => by
          rw [z, List.getD_eq_getElem?_getD, List.getElem?_append_right (by omega), lwN5]
          rfl
        generalize (ws3 ++ lOwn).getD i [] = a at ea la hqx
        subst ea
        have qn : i = 5 → 1 ≤ a.length ∧ a.length ≤ 8 := fun z => by
          rw [hqx z]
          decide +kernel
        have skip : (i = 5 → 1 ≤ fs.length) → ∃ (y8' : Option V) (fs' : List (List Nat)), [some (.ref p), some (V.str (Str.ofString "abcdefghijklmnopqrstuvwxyz")), some (V.str (Tx l)), some (nI at_), some (V.str (Tx [c])), some (.ref N), some (V.str (Tx wh)), some (.ref F), some (V.str (Tx a)), none] = [some (.ref p), some (V.str (Str.ofString "abcdefghijklmnopqrstuvwxyz")), some (V.str (Tx l)), some (nI at_), some (V.str (Tx [c])), some (.ref N), some (V.str (Tx wh)), some (.ref F), y8', none] ∧
            H3' F = some (.lst (wV fs')) ∧ fs'.length ≤ i + 1 ∧ (∀ n ∈ fs', nmOk n = true) ∧ (5 < i + 1 → 1 ≤ fs'.length) ∧ SameX p H H3' ∧ PoolAt H3' p ∧ H3' C = some (.lst (wV (ws3 ++ lOwn))) :=
          fun hz => ⟨_, fs, rfl, eF2, by omega, of, fun z => by
            by_cases h5 : i = 5
            · exact hz h5
            · exact pf (by omega), s2, hP2, eC2⟩
        have hlf : fs.length ≤ 100 := by
          rw [wV_len, List.length_append, lwN5] at hi
          have : lOwn.length = 5 := rfl
          omega
        have la2 := la.2
        refine ⟨_, rfl, _, rfl, by rw [Tx_len]; exact sl_le (by omega), _, _, rfl, rfl, _, rfl, ?_⟩
        rw [Tx_len]
        refine iteB (fun c1 => ?_) (fun c1 => ⟨_, rfl, skip fun z => ?_⟩)
        · refine ⟨_, _, rfl, rfl, _, rfl, ?_⟩
          have c1' := of_decide_eq_true c1
          refine iteB (fun c2 => ?_) (fun c2 => skip fun z => ?_)
          · have c2' := of_decide_eq_true c2
            refine ⟨_, rfl, _, rfl, F, wV fs, rfl, .inl (.inl (.inl eF2)), rfl, wV_flat fs, _, rfl, ?_⟩
            rw [if_pos rfl, inV_wV]
            cases c3 : decide (a ∈ fs) with
            | true => exact skip fun _ => List.length_pos_of_mem (of_decide_eq_true c3)
            | false =>
              refine ⟨_, rfl, tyL eF2, _, rfl, F, _, _, rfl, rfl, eF2, by rw [wV_len]; exact sl_lt (by omega), ?_⟩
              refine ⟨some (V.str (Tx a)), fs ++ [a], rfl, ?_, by rw [List.length_append]; exact Nat.add_le_add_right lf 1, fun n hn => ?_, fun _ => by rw [List.length_append]; exact Nat.le_add_left _ _, fun x o n e => ?_, ?_, ?_⟩
              · rw [upd_same, ← wV_app]
                rfl
              · rcases List.mem_append.mp hn with z | z
                · exact of n z
                · rw [List.mem_singleton.mp z]
                  exact la.nm (by omega) (by omega)
              · rw [upd_ne (ne_of_none e hHF)]
                exact s2 x o n e
              · obtain ⟨b1, b2, b3, e⟩ := hP2
                exact ⟨b1, b2, b3, (upd_ne npF.symm).trans e⟩
              · exact (upd_ne nFC.symm).trans eC2
          · have c2' := of_decide_eq_false c2
            have := qn z
            omega
        · have c1' := of_decide_eq_false c1
          have := qn z
          omega
      · obtain ⟨y8, fs, rfl, eF2, lf, of, pf, s2, hP2, eC2⟩ := hv
        have hi5 : (wV (ws3 ++ lOwn)).length = 10 := by
          rw [wV_len, List.length_append, lwN5]
          rfl
        rw [hi5] at lf pf
        have pf1 := pf (by decide)
        refine ⟨_, rfl, by show 2 ≤ sizeLine; decide, fun Z hZ => ?_⟩
        have eZ : (upd H2 Z (.lst [nI 5, nI 10])) Z = some (.lst [nI 5, nI 10]) := upd_same
        have sZ : Same H2 (upd H2 Z (.lst [nI 5, nI 10])) := same_upd hZ
        have npZ : Z ≠ p := hP2.ne hZ
        have nFZ : F ≠ Z := ne_of_none eF2 hZ
        refine ⟨_, rfl, p, 8, rfl, by decide, big_lt (by decide), hP2.same sZ, fun r9 H9 hr9 s9 hP10 => ⟨rfl, .inr ⟨_, rfl, ?_⟩⟩⟩
        have eF9 := s9 _ _ npF (sZ _ _ eF2)
        have eZ9 := s9 _ _ npZ eZ
        have s29 := (s2.trans (sameX sZ)).trans s9
        have fin : ∀ j : Nat, 1 ≤ j → ∀ D5, H9 D5 = none → Q (.ref D5) (upd H9 D5 (.lst (cutV (wV fs) none (some (j : Int))))) := fun j hj D5 hD5 => by
          rw [cutV_to]
          have et : (wV fs).take j = wV (fs.take j) := (List.map_take ..).symm
          have npD : D5 ≠ p := hP10.ne hD5
          refine q (fs.take j) _ D5 (by rw [List.length_take]; omega) (by rw [List.length_take]; omega) (fun n hn => of n (List.mem_of_mem_take hn)) (s29.trans (sameX (same_upd hD5))) (hP10.same (same_upd hD5)) (s29.free npD hD5) ?_
          rw [upd_same, et]
        cases hb : decide (V.int (r9 : Int) = V.int 1) with
        | false => exact ⟨Z, _, _, _, rfl, rfl, .inl (.inl eZ9), atI_nat (j := 0) rfl, _, rfl, F, _, rfl, .inl (.inl eF9), fun D5 hD5 => fin 5 (by decide) D5 hD5⟩
        | true => exact ⟨Z, _, _, _, rfl, rfl, .inl (.inl eZ9), atI_nat (j := 1) rfl, _, rfl, F, _, rfl, .inl (.inl eF9), fun D5 hD5 => fin 10 (by decide) D5 hD5⟩
    · refine ⟨Nat.zero_le _, fun F hF => ?_⟩
      have eF : (upd H8 F (.lst [])) F = some (.lst (wV [])) := upd_same
      have sF : Same H8 (upd H8 F (.lst [])) := same_upd hF
      have npF : F ≠ p := PoolAt.ne hP9 hF
      have hPF := PoolAt.same hP9 sF
      have eMF := sF _ _ eM8
      have s0F := SameX.trans s08 (sameX sF)
      have hHF : H F = none := SameX.free s08 npF hF
      generalize upd H8 F (.lst []) = HF at eF sF hPF eMF s0F ⊢
      refine ⟨_, rfl, by show 5 ≤ sizeLine; decide, fun G2 hG2 => ?_⟩
      have eG2 : (upd HF G2 (.lst [V.str (Str.ofString "qx"), V.str (Str.ofString "qy"), V.str (Str.ofString "qxqy"), V.str (Str.ofString "zzzzzzzz"), V.str (Str.ofString "x")])) G2 = some (.lst (wV lOwn)) := upd_same
      have sG2 : Same HF (upd HF G2 (.lst [V.str (Str.ofString "qx"), V.str (Str.ofString "qy"), V.str (Str.ofString "qxqy"), V.str (Str.ofString "zzzzzzzz"), V.str (Str.ofString "x")])) := same_upd hG2
      generalize upd HF G2 (.lst [V.str (Str.ofString "qx"), V.str (Str.ofString "qy"), V.str (Str.ofString "qxqy"), V.str (Str.ofString "zzzzzzzz"), V.str (Str.ofString "x")]) = HG at eG2 sG2 ⊢
      refine ⟨M, G2, _, _, rfl, rfl, sG2 _ _ eMF, eG2, by rw [wV_len, wV_len, lw5]; exact sl_le (by decide), fun C hC => ?_⟩
      have eC : (upd HG C (.lst (wV ws2 ++ wV lOwn))) C = some (.lst (wV (ws2 ++ lOwn))) := by
        rw [← wV_app]
        exact upd_same
      have sC : Same HG (upd HG C (.lst (wV ws2 ++ wV lOwn))) := same_upd hC
      have nFC : F ≠ C := ne_of_none (sG2 _ _ eF) hC
      have npC : C ≠ p := PoolAt.ne (hPF.same sG2) hC
      have eFC := sC _ _ (sG2 _ _ eF)
      have sHC := (s0F.trans (sameX sG2)).trans (sameX sC)
      have hPC := (hPF.same sG2).same sC
      generalize upd HG C (.lst (wV ws2 ++ wV lOwn)) = HC at eC sC eFC sHC hPC ⊢
      have lwC : ∀ x ∈ ws2 ++ lOwn, LW x := fun x hx => by
        have ho : ∀ x ∈ lOwn, (∀ c ∈ x, c ∈ lLET) ∧ x.length ≤ 20 := by decide +kernel
        exact (List.mem_append.mp hx).elim (lws2 x) (ho x)
      refine ⟨C, rfl, ⟨_, .inl (.inl eC)⟩, ?_⟩
      refine for_it (walk_list (a := C) (xs := wV (ws2 ++ lOwn))) (fun i σ H' => ∃ (y8 : Option V) (fs : List (List Nat)), σ = [some (.ref p), some (V.str (Str.ofString "abcdefghijklmnopqrstuvwxyz")), some (V.str (Tx l)), some (nI at_), some (V.str (Tx [c])), some (.ref M), none, some (.ref F), y8, none] ∧
          H' F = some (.lst (wV fs)) ∧ fs.length ≤ i ∧ (∀ n ∈ fs, nmOk n = true) ∧ (5 < i → 1 ≤ fs.length) ∧ SameX p H H' ∧ PoolAt H' p ∧ H' C = some (.lst (wV (ws2 ++ lOwn))))
        ⟨none, [], rfl, eFC, Nat.le_refl _, fun n hn => (by cases hn), fun z => (by omega), sHC, hPC, eC⟩ (fun i σ H' _ hv => ?_) (fun i x σ H2 H3' hi hv hY => ?_) (fun σ H2 hv => ?_)
      · obtain ⟨y8, fs, _, _, _, _, _, _, _, e⟩ := hv
        exact .inl (.inl e)
      · obtain ⟨y8, fs, rfl, eF2, lf, of, pf, s2, hP2, eC2⟩ := hv
        obtain ⟨rfl, hx⟩ := hY
        have hiw : i < (ws2 ++ lOwn).length := by rw [← wV_len]; exact hi
        have ea : x = V.str (Tx ((ws2 ++ lOwn).getD i [])) := by
          have h1 := wV_at hiw
          rw [hx] at h1
          exact Option.some.inj h1
        have la := lwC _ (getD_mem hiw)
        have hqx : i = 5 → (ws2 ++ lOwn).getD i [] = Wt "qx" := fun z => by
          rw [z, List.getD_eq_getElem?_getD, List.getElem?_append_right (by omega), lw5]
          rfl
        generalize (ws2 ++ lOwn).getD i [] = a at ea la hqx
        subst ea
        have qn : i = 5 → 1 ≤ a.length ∧ a.length ≤ 8 := fun z => by
          rw [hqx z]
          decide +kernel
        have skip : (i = 5 → 1 ≤ fs.length) → ∃ (y8' : Option V) (fs' : List (List Nat)), [some (.ref p), some (V.str (Str.ofString "abcdefghijklmnopqrstuvwxyz")), some (V.str (Tx l)), some (nI at_), some (V.str (Tx [c])), some (.ref M), none, some (.ref F), some (V.str (Tx a)), none] = [some (.ref p), some (V.str (Str.ofString "abcdefghijklmnopqrstuvwxyz")), some (V.str (Tx l)), some (nI at_), some (V.str (Tx [c])), some (.ref M), none, some (.ref F), y8', none] ∧
            H3' F = some (.lst (wV fs')) ∧ fs'.length ≤ i + 1 ∧ (∀ n ∈ fs', nmOk n = true) ∧ (5 < i + 1 → 1 ≤ fs'.length) ∧ SameX p H H3' ∧ PoolAt H3' p ∧ H3' C = some (.lst (wV (ws2 ++ lOwn))) :=
          fun hz => ⟨_, fs, rfl, eF2, by omega, of, fun z => by
            by_cases h5 : i = 5
            · exact hz h5
            · exact pf (by omega), s2, hP2, eC2⟩
        have hlf : fs.length ≤ 100 := by
          rw [wV_len, List.length_append, lw5] at hi
          have : lOwn.length = 5 := rfl
          omega
        have la2 := la.2
        refine ⟨_, rfl, _, rfl, by rw [Tx_len]; exact sl_le (by omega), _, _, rfl, rfl, _, rfl, ?_⟩
        rw [Tx_len]
        refine iteB (fun c1 => ?_) (fun c1 => ⟨_, rfl, skip fun z => ?_⟩)
        · refine ⟨_, _, rfl, rfl, _, rfl, ?_⟩
          have c1' := of_decide_eq_true c1
          refine iteB (fun c2 => ?_) (fun c2 => skip fun z => ?_)
          · have c2' := of_decide_eq_true c2
            refine ⟨_, rfl, _, rfl, F, wV fs, rfl, .inl (.inl (.inl eF2)), rfl, wV_flat fs, _, rfl, ?_⟩
            rw [if_pos rfl, inV_wV]
            cases c3 : decide (a ∈ fs) with
            | true => exact skip fun _ => List.length_pos_of_mem (of_decide_eq_true c3)
            | false =>
              refine ⟨_, rfl, tyL eF2, _, rfl, F, _, _, rfl, rfl, eF2, by rw [wV_len]; exact sl_lt (by omega), ?_⟩
              refine ⟨some (V.str (Tx a)), fs ++ [a], rfl, ?_, by rw [List.length_append]; exact Nat.add_le_add_right lf 1, fun n hn => ?_, fun _ => by rw [List.length_append]; exact Nat.le_add_left _ _, fun x o n e => ?_, ?_, ?_⟩
              · rw [upd_same, ← wV_app]
                rfl
              · rcases List.mem_append.mp hn with z | z
                · exact of n z
                · rw [List.mem_singleton.mp z]
                  exact la.nm (by omega) (by omega)
              · rw [upd_ne (ne_of_none e hHF)]
                exact s2 x o n e
              · obtain ⟨b1, b2, b3, e⟩ := hP2
                exact ⟨b1, b2, b3, (upd_ne npF.symm).trans e⟩
              · exact (upd_ne nFC.symm).trans eC2
          · have c2' := of_decide_eq_false c2
            have := qn z
            omega
        · have c1' := of_decide_eq_false c1
          have := qn z
          omega
      · obtain ⟨y8, fs, rfl, eF2, lf, of, pf, s2, hP2, eC2⟩ := hv
        have hi5 : (wV (ws2 ++ lOwn)).length = 10 := by
          rw [wV_len, List.length_append, lw5]
          rfl
        rw [hi5] at lf pf
        have pf1 := pf (by decide)
        refine ⟨_, rfl, by show 2 ≤ sizeLine; decide, fun Z hZ => ?_⟩
        have eZ : (upd H2 Z (.lst [nI 5, nI 10])) Z = some (.lst [nI 5, nI 10]) := upd_same
        have sZ : Same H2 (upd H2 Z (.lst [nI 5, nI 10])) := same_upd hZ
        have npZ : Z ≠ p := hP2.ne hZ
        have nFZ : F ≠ Z := ne_of_none eF2 hZ
        refine ⟨_, rfl, p, 8, rfl, by decide, big_lt (by decide), hP2.same sZ, fun r9 H9 hr9 s9 hP10 => ⟨rfl, .inr ⟨_, rfl, ?_⟩⟩⟩
        have eF9 := s9 _ _ npF (sZ _ _ eF2)
        have eZ9 := s9 _ _ npZ eZ
        have s29 := (s2.trans (sameX sZ)).trans s9
        have fin : ∀ j : Nat, 1 ≤ j → ∀ D5, H9 D5 = none → Q (.ref D5) (upd H9 D5 (.lst (cutV (wV fs) none (some (j : Int))))) := fun j hj D5 hD5 => by
          rw [cutV_to]
          have et : (wV fs).take j = wV (fs.take j) := (List.map_take ..).symm
          have npD : D5 ≠ p := hP10.ne hD5
          refine q (fs.take j) _ D5 (by rw [List.length_take]; omega) (by rw [List.length_take]; omega) (fun n hn => of n (List.mem_of_mem_take hn)) (s29.trans (sameX (same_upd hD5))) (hP10.same (same_upd hD5)) (s29.free npD hD5) ?_
          rw [upd_same, et]
        cases hb : decide (V.int (r9 : Int) = V.int 1) with
        | false => exact ⟨Z, _, _, _, rfl, rfl, .inl (.inl eZ9), atI_nat (j := 0) rfl, _, rfl, F, _, rfl, .inl (.inl eF9), fun D5 hD5 => fin 5 (by decide) D5 hD5⟩
        | true => exact ⟨Z, _, _, _, rfl, rfl, .inl (.inl eZ9), atI_nat (j := 1) rfl, _, rfl, F, _, rfl, .inl (.inl eF9), fun D5 hD5 => fin 10 (by decide) D5 hD5⟩
end
end BR
set_option Elab.async false
set_option linter.all false
set_option maxRecDepth 100000
set_option maxHeartbeats 4000000
/-! L6: the law's helpers: sure, told_of -/
namespace BR
open PySem PySem.Spec PyProof.Rows L2
section
variable {P : Program} {w : World} {K : PySem.W.Frag} {mg : Str → Option Value} {base : Heap} {f : Addr} {fd : FuncData}
def spLSure (CE : Addr) : Sp := fun vs H Q E => ∃ (k : Nat) (l : List Nat), vs = [nI k, .str (Tx l)] ∧ 1 ≤ k ∧ k ≤ 4 ∧ rowBy k l = true ∧ (0 < Wn k l → ∀ H', Same H H' → Q (.str (Tx (sureRow k l))) H') ∧ (¬ 0 < Wn k l → ∀ H', Same H H' → E (.ref CE) none H')
theorem sc__law_sure : FnScope ["k", "row", "signs", "place", "bracket"] ["k", "row"] (defScope s__law_sure) := ⟨rfl, rfl, rfl, by decide +kernel, rfl, by decide +kernel, by decide +kernel⟩
theorem ok__law_sure (T : Txt K mg) (F : FunP K "_law_sure" "_law_sure" s__law_sure f fd) (g_sure_places : Dk P w K mg base (L2.CX P w) 5 "sure_places" ["k", "row"] (spSure (cA K "NoFilling"))) :
    FnOk P w K mg base (L2.CX P w) 6 f fd ["k", "row"] (spLSure (cA K "NoFilling")) := by
  refine F.ok sc__law_sure (fun vs H Q E h => ?_) (fun cdv A outer s H vs Q E hr h => ?_)
  · obtain ⟨k, l, rfl, _⟩ := h
    rfl
  · obtain ⟨k, l, rfl, k1, k4, hb, q1, q2⟩ := h
    refine ⟨_, (pss_cons (ps_set (i := 2) sc__law_sure.nd rfl (.inl rfl) (pe_callTy (call_listS rfl) (by rfl) T.b_list (by decide +kernel) (pa_cons (pv 1) pa_nil)))
       (pss_cons (ps_for (passes_of rfl) rfl (pi_list (g_sure_places.call hr (passes_call (takes_of rfl rfl rfl rfl) (fun _ _ _ _ h => h)) (pa_cons (pv 0) (pa_cons (pv 1) pa_nil)))) (pg_tup (by rfl) (pgs_cons (pg_name (i := 3) sc__law_sure.nd rfl (.inl rfl)) (pgs_cons (pg_name (i := 4) sc__law_sure.nd rfl (.inl rfl)) pgs_nil)))
        (pss_one (ps_asg (pv 4) (pg_sub (pv 2) (pv 3) set_list))))
       (pss_one (ps_ret (pe_join pe_str (pv 2)))))) , ?_⟩
    have hl := rowBy_len hb
    refine ⟨_, rfl, l, rfl, by omega, fun G hG => ?_⟩
    have s1 := same_upd (o := .lst (l.map fun c => V.str (Tx [c]))) hG
    have eG : (upd H G (.lst (l.map fun c => V.str (Tx [c])))) G = some (.lst (l.map fun c => V.str (Tx [c]))) := upd_same
    generalize upd H G (.lst (l.map fun c => V.str (Tx [c]))) = H1 at s1 eG ⊢
    refine ⟨_, rfl, _, rfl, k, l, rfl, k1, k4, hb, fun hpos H2 D Ts s2 hDD eD zD => ⟨D, rfl, ⟨_, .inl (.inl eD)⟩, ?_⟩, fun hneg H2 s2 => q2 hneg _ (s1.trans s2)⟩
    have eG2 := s2 _ _ eG
    have nDG : D ≠ G := fun z => by
      rw [z, eG] at hDD
      cases hDD
    refine for_it (walk_list (K := K) (a := D) (xs := Ts.map V.ref)) (fun i σ H' => ∃ (y3 y4 : Option V), σ = [some (nI k), some (.str (Tx l)), some (.ref G), y3, y4] ∧ SameX G H2 H' ∧ H' G = some (.lst ((((sureL k l).take i).foldl (fun m x => m.set x.1 x.2) l).map fun c => V.str (Tx [c]))))
      ⟨none, none, rfl, SameX.refl _ _, eG2⟩ (fun i σ H' _ hP => ?_) (fun i x σ H3 H4 hi hP hY => ?_) (fun σ H3 hP => ?_)
    · obtain ⟨_, _, _, s3, _⟩ := hP
      exact .inl (.inl (s3 _ _ nDG eD))
    · obtain ⟨y3, y4, rfl, s3, eG3⟩ := hP
      obtain ⟨rfl, hx⟩ := hY
      rw [List.length_map] at hi
      obtain ⟨T', hT'⟩ : ∃ T', Ts[i]? = some T' := ⟨Ts[i], by simp [hi]⟩
      rw [List.getElem?_map, hT'] at hx
      obtain rfl : V.ref T' = x := Option.some.inj hx
      obtain ⟨⟨p, c⟩, hpc, hR⟩ := zD.get hT'
      have hR2 : H2 T' = some (.tup [nI p, .str (Tx [c])]) := hR
      have eT4 := s3 _ _ (ne_of hR2 eG2 (by intro z; cases z)) hR2
      have hpl : p < l.length := sureL_lt (p, c) (List.mem_of_getElem? hpc)
      refine ⟨T', _, rfl, SqT.of eT4, rfl, _, _, rfl, _, _, rfl, rfl, ?_⟩
      refine ⟨_, rfl, _, rfl, _, rfl, G, _, _, p, rfl, rfl, eG3, ixN_n (by rw [List.length_map, fold_len]; exact hpl), ?_⟩
      refine ⟨_, _, rfl, s3.up, ?_⟩
      rw [upd_same, List.take_add_one, hpc, List.foldl_append]
      show _ = some (HO.lst (List.map _ (List.set _ p c)))
      rw [List.map_set]
    · obtain ⟨y3, y4, rfl, s3, eG3⟩ := hP
      have hln : (sureL k l).length = Ts.length := zD.len
      rw [List.length_map, ← hln, List.take_length] at eG3
      obtain ⟨m, hm⟩ : ∃ m, m = (sureL k l).foldl (fun m x => m.set x.1 x.2) l := ⟨_, rfl⟩
      have hml : m.length = l.length := by rw [hm, fold_len]
      rw [← hm] at eG3
      refine ⟨⟨_, rfl⟩, _, rfl, Tx [], G, m.map fun c => Tx [c], rfl, rfl, .inl (.inl (.inl (by rw [List.map_map]; exact eG3))), ?_, ?_⟩
      · have := len_ones (f := fun c => c) m
        rw [this, List.length_map]
        show m.length + m.length * 0 ≤ _
        omega
      · have := joinT_one (fun c => c) m
        rw [this, List.map_id']
        have h := q1 hpos H3 (((sameX (s1.trans s2)).trans s3).new hG)
        unfold sureRow at h
        rw [← hm] at h
        exact h
/-- the heads that the law asks with -/
def lHEADS : List (List Nat) := [Wt "right", Wt "may", Wt "many", Wt "nth", Wt "number", Wt "sure", Wt "fewest", Wt "more", Wt "show"]
structure TldOk (k : Nat) (hd l more : List Nat) : Prop where
  k1 : 1 ≤ k
  k4 : k ≤ 4
  row : rowBy k l = true
  head : hd ∈ lHEADS
  num : hd = Wt "nth" → numOk more = true
  as : hd = Wt "number" → As more ∧ more.length ≤ 10000
def spTold (K : PySem.W.Frag) : Sp := fun vs H Q E => ∃ (k : Nat) (hd l more : List Nat), vs = [nI k, .str (Tx hd), .str (Tx l), .str (Tx more)] ∧ TldOk k hd l more ∧ Ans K H Q E (tellM k hd l more)
theorem sc__law_told_of : FnScope ["k", "head", "row", "more", "told"] ["k", "head", "row", "more"] (defScope s__law_told_of) := ⟨rfl, rfl, rfl, by decide +kernel, rfl, by decide +kernel, by decide +kernel⟩
theorem ok__law_told_of (T : Txt K mg) (F : FunP K "_law_told_of" "_law_told_of" s__law_told_of f fd) (g_is_right : Dk P w K mg base CX0 4 "is_right" ["k", "row"] spIsRight)
    (g_may_go_on : Dk P w K mg base CX0 5 "may_go_on" ["k", "row"] spMayGo) (g_how_many : Dk P w K mg base CX0 4 "how_many" ["k", "row"] spHowMany) (g_nth_filling : Dk P w K mg base (L2.CX P w) 6 "nth_filling" ["k", "row", "i"] (spNth (cA K "NoNumber")))
    (g_number_of : Dk P w K mg base (L2.CX P w) 6 "number_of" ["k", "row", "filling"] (spNumber (cA K "NotRight"))) (g__law_shown : Dk P w K mg base CX0 1 "_law_shown" ["row"] spLShown) (g__law_sure : Dk P w K mg base (L2.CX P w) 6 "_law_sure" ["k", "row"] (spLSure (cA K "NoFilling")))
    (g_fewest_changes : Dk P w K mg base CX0 4 "fewest_changes" ["k", "row"] spFewest) (g_fewest_more : Dk P w K mg base CX0 5 "fewest_more" ["k", "row"] spMore) :
    FnOk P w K mg base (L2.CX P w) 7 f fd ["k", "head", "row", "more"] (spTold K) := by
  refine F.ok sc__law_told_of (fun vs H Q E h => ?_) (fun cdv A outer s H vs Q E hr h => ?_)
  · obtain ⟨k, hd, l, more, rfl, _⟩ := h
    rfl
  · obtain ⟨k, hd, l, more, rfl, hT, q⟩ := h
    refine ⟨_, (pss_cons (ps_if (pt_cmpR op_eq (pv 1) pe_str (nomark _))
        (pss_one (ps_ret (pe_ix (show IxR _ (rIxL K) from ix_list) (pe_lst (pa_cons pe_str (pa_cons pe_str pa_nil))) (pe_callTy call_int1 (by rfl) T.b_int (by decide +kernel) (pa_cons (g_is_right.call hr pass0 (pa_cons (pv 0) (pa_cons (pv 2) pa_nil))) pa_nil)) (fun _ _ => rfl))))
        pss_nil)
       (pss_cons (ps_if (pt_cmpR op_eq (pv 1) pe_str (nomark _))
        (pss_one (ps_ret (pe_ix (show IxR _ (rIxL K) from ix_list) (pe_lst (pa_cons pe_str (pa_cons pe_str pa_nil))) (pe_callTy call_int1 (by rfl) T.b_int (by decide +kernel) (pa_cons (g_may_go_on.call hr pass0 (pa_cons (pv 0) (pa_cons (pv 2) pa_nil))) pa_nil)) (fun _ _ => rfl))))
        pss_nil)
       (pss_cons (ps_if (pt_cmpR op_eq (pv 1) pe_str (nomark _))
        (pss_one (ps_ret (pe_callTy call_str_int (by rfl) T.b_str (by decide +kernel) (pa_cons (pe_op op_add (g_how_many.call hr pass0 (pa_cons (pv 0) (pa_cons (pv 2) pa_nil))) pe_int) pa_nil))))
        pss_nil)
       (pss_cons (ps_if (pt_cmpR op_eq (pv 1) pe_str (nomark _))
        (pss_one (ps_ret (g__law_shown.call hr pass0 (pa_cons (g_nth_filling.call hr (passes_call (takes_of rfl rfl rfl rfl) (fun _ _ _ _ h => h)) (pa_cons (pv 0) (pa_cons (pv 2) (pa_cons (pe_callTy call_int_str (by rfl) T.b_int (by decide +kernel) (pa_cons (pv 3) pa_nil)) pa_nil)))) pa_nil))))
        pss_nil)
       (pss_cons (ps_if (pt_cmpR op_eq (pv 1) pe_str (nomark _))
        (pss_one (ps_ret (pe_callTy call_str_int (by rfl) T.b_str (by decide +kernel) (pa_cons (pe_op op_add (g_number_of.call hr (passes_call (takes_of rfl rfl rfl rfl) (fun _ _ _ _ h => h)) (pa_cons (pv 0) (pa_cons (pv 2) (pa_cons (pv 3) pa_nil)))) pe_int) pa_nil))))
        pss_nil)
       (pss_cons (ps_if (pt_cmpR op_eq (pv 1) pe_str (nomark _))
        (pss_one (ps_ret (g__law_shown.call hr pass0 (pa_cons (g__law_sure.call hr (passes_call (takes_of rfl rfl rfl rfl) (fun _ _ _ _ h => h)) (pa_cons (pv 0) (pa_cons (pv 2) pa_nil))) pa_nil))))
        pss_nil)
       (pss_cons (ps_if (pt_cmpR op_eq (pv 1) pe_str (nomark _))
        (pss_cons (ps_set (i := 4) sc__law_told_of.nd rfl (.inl rfl) (g_fewest_changes.call hr pass0 (pa_cons (pv 0) (pa_cons (pv 2) pa_nil))))
       (pss_one (ps_ret (pe_ifExp (pt_cmpR op_isN (pv 4) pe_non (nomark _)) pe_str (pe_op op_add_str (pe_op op_add_str (pe_callTy call_str_int (by rfl) T.b_str (by decide +kernel) (pa_cons (pe_op op_add (pe_ix ix_tup (pv 4) pe_int (fun _ _ => rfl)) pe_int) pa_nil)) pe_str) (g__law_shown.call hr pass0 (pa_cons (pe_ix ix_tup (pv 4) pe_int (fun _ _ => rfl)) pa_nil)))))))
        pss_nil)
       (pss_cons (ps_if (pt_cmpR op_eq (pv 1) pe_str (nomark _))
        (pss_cons (ps_set (i := 4) sc__law_told_of.nd rfl (.inl rfl) (g_fewest_more.call hr pass0 (pa_cons (pv 0) (pa_cons (pv 2) pa_nil))))
       (pss_one (ps_ret (pe_ifExp (pt_cmpR op_isN (pv 4) pe_non (nomark _)) pe_str (pe_callTy call_str_int (by rfl) T.b_str (by decide +kernel) (pa_cons (pe_op op_add (pv 4) pe_int) pa_nil))))))
        pss_nil)
       (pss_one (ps_ret (g__law_shown.call hr pass0 (pa_cons (pv 2) pa_nil)))))))))))) , ?_⟩
    obtain ⟨k1, k4, hb, hh, hnum, has⟩ := hT
    have hl := rowBy_len hb
    have srf : Same H H := fun x o e => e
    unfold tellM at q
    refine ⟨_, rfl, rfl, _, rfl, ?_⟩
    rw [tx_eqW]
    refine iteB (fun c_right => ?_) (fun c_right => ?_)
    · have e_right := of_decide_eq_true c_right
      rw [if_neg (by rw [e_right]; decide)] at q
      rw [if_pos e_right] at q
      refine ⟨by show 2 ≤ sizeLine; decide, fun Z hZ => ?_⟩
      have eZ : (upd H Z (.lst [V.str (Str.ofString "no"), V.str (Str.ofString "yes")])) Z = some (.lst [V.str (Str.ofString "no"), V.str (Str.ofString "yes")]) := upd_same
      have sZ : Same H (upd H Z (.lst [V.str (Str.ofString "no"), V.str (Str.ofString "yes")])) := same_upd hZ
      refine ⟨_, rfl, _, rfl, k, l, rfl, k1, k4, hb, fun H1 s1 => .inr ⟨_, rfl, ?_⟩⟩
      have y := q _ (sZ.trans s1)
      have eZ1 := s1 _ _ eZ
      cases cr : isR l with
      | false =>
        rw [cr, if_neg (by decide), tx_W] at y
        exact ⟨Z, _, _, _, rfl, rfl, .inl (.inl eZ1), atI_nat (j := 0) rfl, y⟩
      | true =>
        rw [cr, if_pos rfl, tx_W] at y
        exact ⟨Z, _, _, _, rfl, rfl, .inl (.inl eZ1), atI_nat (j := 1) rfl, y⟩
    · have n_right := of_decide_eq_false c_right
      refine ⟨_, rfl, rfl, _, rfl, ?_⟩
      rw [tx_eqW]
      refine iteB (fun c_may => ?_) (fun c_may => ?_)
      · have e_may := of_decide_eq_true c_may
        rw [if_neg (by rw [e_may]; decide)] at q
        rw [if_neg (by rw [e_may]; decide)] at q
        rw [if_pos e_may] at q
        refine ⟨by show 2 ≤ sizeLine; decide, fun Z hZ => ?_⟩
        have eZ : (upd H Z (.lst [V.str (Str.ofString "no"), V.str (Str.ofString "yes")])) Z = some (.lst [V.str (Str.ofString "no"), V.str (Str.ofString "yes")]) := upd_same
        have sZ : Same H (upd H Z (.lst [V.str (Str.ofString "no"), V.str (Str.ofString "yes")])) := same_upd hZ
        refine ⟨_, rfl, _, rfl, k, l, rfl, k1, k4, hb, fun H1 s1 => .inr ⟨_, rfl, ?_⟩⟩
        have y := q _ (sZ.trans s1)
        have eZ1 := s1 _ _ eZ
        cases cr : (dpt k l).isEmpty with
        | false =>
          rw [cr, if_neg (by decide), tx_W] at y
          exact ⟨Z, _, _, _, rfl, rfl, .inl (.inl eZ1), atI_nat (j := 1) rfl, y⟩
        | true =>
          rw [cr, if_pos rfl, tx_W] at y
          exact ⟨Z, _, _, _, rfl, rfl, .inl (.inl eZ1), atI_nat (j := 0) rfl, y⟩
      · have n_may := of_decide_eq_false c_may
        refine ⟨_, rfl, rfl, _, rfl, ?_⟩
        rw [tx_eqW]
        refine iteB (fun c_many => ?_) (fun c_many => ?_)
        · have e_many := of_decide_eq_true c_many
          rw [if_neg (by rw [e_many]; decide)] at q
          rw [if_neg (by rw [e_many]; decide)] at q
          rw [if_neg (by rw [e_many]; decide)] at q
          rw [if_neg (by rw [e_many]; decide)] at q
          rw [if_neg (by rw [e_many]; decide)] at q
          rw [if_pos e_many] at q
          refine ⟨_, rfl, _, rfl, k, l, rfl, k1, k4, (Sg.of hb).as, hb, fun H1 s1 => ⟨_, _, rfl, rfl, _, rfl, ?_, ?_⟩⟩
          · rw [Int.add_zero]
            exact num_ok (wn_lt k4 hl)
          · rw [Int.add_zero, tx_num]
            exact q H1 s1
        · have n_many := of_decide_eq_false c_many
          refine ⟨_, rfl, rfl, _, rfl, ?_⟩
          rw [tx_eqW]
          refine iteB (fun c_nth => ?_) (fun c_nth => ?_)
          · have e_nth := of_decide_eq_true c_nth
            rw [if_neg (by rw [e_nth]; decide)] at q
            rw [if_neg (by rw [e_nth]; decide)] at q
            rw [if_neg (by rw [e_nth]; decide)] at q
            rw [if_pos e_nth] at q
            obtain ⟨i1, i2⟩ := int_num (hnum e_nth)
            refine ⟨_, rfl, _, rfl, _, rfl, _, _, rfl, i1, i2, k, l, valT more, rfl, k1, k4, hb, fun hi H1 s1 => ?_, fun hi H1 s1 => ?_⟩
            · rw [if_pos hi] at q
              exact ⟨_, rfl, q _ s1⟩
            · rw [if_neg hi] at q
              exact q _ s1
          · have n_nth := of_decide_eq_false c_nth
            refine ⟨_, rfl, rfl, _, rfl, ?_⟩
            rw [tx_eqW]
            refine iteB (fun c_number => ?_) (fun c_number => ?_)
            · have e_number := of_decide_eq_true c_number
              rw [if_neg (by rw [e_number]; decide)] at q
              rw [if_neg (by rw [e_number]; decide)] at q
              rw [if_neg (by rw [e_number]; decide)] at q
              rw [if_neg (by rw [e_number]; decide)] at q
              rw [if_neg (by rw [e_number]; decide)] at q
              rw [if_neg (by rw [e_number]; decide)] at q
              rw [if_pos e_number] at q
              obtain ⟨m2, m3⟩ := has e_number
              refine ⟨_, rfl, _, rfl, _, rfl, k, l, more, rfl, k1, k4, hb, m2, m3, fun hF H1 s1 => ?_, fun hF H1 s1 => ?_⟩
              · rw [if_pos hF] at q
                refine ⟨_, _, rfl, rfl, _, rfl, ?_, ?_⟩
                · obtain ⟨f1, _, _⟩ := isF_sigs hF
                  rw [Int.add_zero]
                  exact num_ok (nO_lt k4 hl (by omega))
                · rw [Int.add_zero, tx_num]
                  exact q H1 s1
              · rw [if_neg (by rw [hF]; decide)] at q
                exact q H1 s1
            · have n_number := of_decide_eq_false c_number
              refine ⟨_, rfl, rfl, _, rfl, ?_⟩
              rw [tx_eqW]
              refine iteB (fun c_sure => ?_) (fun c_sure => ?_)
              · have e_sure := of_decide_eq_true c_sure
                rw [if_neg (by rw [e_sure]; decide)] at q
                rw [if_neg (by rw [e_sure]; decide)] at q
                rw [if_neg (by rw [e_sure]; decide)] at q
                rw [if_neg (by rw [e_sure]; decide)] at q
                rw [if_pos e_sure] at q
                refine ⟨_, rfl, _, rfl, k, l, rfl, k1, k4, hb, fun hi H1 s1 => ?_, fun hi H1 s1 => ?_⟩
                · rw [if_pos hi] at q
                  exact ⟨_, rfl, q _ s1⟩
                · rw [if_neg hi] at q
                  exact q _ s1
              · have n_sure := of_decide_eq_false c_sure
                refine ⟨_, rfl, rfl, _, rfl, ?_⟩
                rw [tx_eqW]
                refine iteB (fun c_fewest => ?_) (fun c_fewest => ?_)
                · have e_fewest := of_decide_eq_true c_fewest
                  rw [if_neg (by rw [e_fewest]; decide)] at q
                  rw [if_neg (by rw [e_fewest]; decide)] at q
                  rw [if_neg (by rw [e_fewest]; decide)] at q
                  rw [if_neg (by rw [e_fewest]; decide)] at q
                  rw [if_neg (by rw [e_fewest]; decide)] at q
                  rw [if_neg (by rw [e_fewest]; decide)] at q
                  rw [if_neg (by rw [e_fewest]; decide)] at q
                  rw [if_pos e_fewest] at q
                  refine ⟨_, rfl, _, rfl, k, l, rfl, k1, k4, hb, fun ho H1 s1 => ?_, fun he H1 T1 s1 hT1 eT1 => ?_⟩
                  · rw [if_pos ho] at q
                    refine ⟨_, rfl, rfl, _, rfl, ?_⟩
                    have := q H1 s1
                    rw [tx_W] at this
                    exact this
                  · rw [if_neg (by omega)] at q
                    refine ⟨_, rfl, rfl, _, rfl, ?_⟩
                    have b1 := bst_le k1 l (l.length / 2) (l.length / 2) 0 (Nat.le_refl _)
                    obtain ⟨z1, _⟩ := bst_ok k1 k4 l (l.length / 2) (l.length / 2) 0 (Nat.le_refl _)
                    refine iteF ⟨_, rfl, T1, _, _, _, rfl, rfl, SqT.of eT1, atI_nat (j := 0) rfl, _, _, rfl, rfl, _, rfl, ?_, ?_⟩
                    · rw [Int.add_zero]
                      exact num_ok (small_lt (by omega))
                    rw [Int.add_zero, tx_num]
                    have ln := numT_len (n := (bst k l (l.length / 2) 0).1) (k := 3) (by decide) (by show _ < 1000; omega)
                    have z2 : ((bst k l (l.length / 2) 0).2.map br).length = 2 * (l.length / 2) := by rw [List.length_map, z1]
                    have z3 : (shw ((bst k l (l.length / 2) 0).2.map br)).length ≤ 100 := by
                      unfold shw
                      split
                      · decide
                      · omega
                    refine ⟨_, _, rfl, rfl, by rw [Tx_len]; exact sl_le (by show _ + 1 ≤ _; omega), ?_⟩
                    refine ⟨_, rfl, T1, _, _, _, rfl, rfl, SqT.of eT1, atI_nat (j := 1) rfl, _, rfl, ?_⟩
                    have e32 : (Tx (numT (bst k l (l.length / 2) 0).1) ++ Str.ofString " ") = Tx (numT (bst k l (l.length / 2) 0).1 ++ [32]) := by
                      have e1 : Str.ofString " " = Tx [32] := rfl
                      rw [e1, Tx_app]
                    refine ⟨_, _, rfl, rfl, ?_, ?_⟩
                    · rw [e32, Tx_len, Tx_len, List.length_append]
                      exact sl_le (by show _ + 1 + _ ≤ _; omega)
                    · rw [e32, Tx_app]
                      exact q H1 s1
                · have n_fewest := of_decide_eq_false c_fewest
                  refine ⟨_, rfl, rfl, _, rfl, ?_⟩
                  rw [tx_eqW]
                  refine iteB (fun c_more => ?_) (fun c_more => ?_)
                  · have e_more := of_decide_eq_true c_more
                    rw [if_neg (by rw [e_more]; decide)] at q
                    rw [if_neg (by rw [e_more]; decide)] at q
                    rw [if_neg (by rw [e_more]; decide)] at q
                    rw [if_neg (by rw [e_more]; decide)] at q
                    rw [if_neg (by rw [e_more]; decide)] at q
                    rw [if_neg (by rw [e_more]; decide)] at q
                    rw [if_neg (by rw [e_more]; decide)] at q
                    rw [if_neg (by rw [e_more]; decide)] at q
                    refine ⟨_, rfl, _, rfl, k, l, rfl, k1, k4, hb, fun H1 s1 => ?_⟩
                    cases ed : dpt k l with
                    | nil =>
                      refine ⟨_, rfl, rfl, _, rfl, ?_⟩
                      rw [ed] at q
                      have := q H1 s1
                      unfold moreT at this
                      rw [tx_W] at this
                      exact this
                    | cons m r =>
                      refine ⟨_, rfl, rfl, _, rfl, ?_⟩
                      rw [ed] at q
                      have hm : m < l.length + 2 := by
                        have : m ∈ dpt k l := by rw [ed]; exact List.mem_cons_self
                        unfold dpt at this
                        exact (upTo_mem.mp this).1
                      have := q H1 s1
                      unfold moreT at this
                      refine iteF ⟨_, rfl, _, _, rfl, rfl, _, rfl, ?_, ?_⟩
                      · rw [Int.add_zero]
                        exact num_ok (small_lt (by omega))
                      · rw [Int.add_zero, tx_num]
                        exact this
                  · have n_more := of_decide_eq_false c_more
                    have e_show : hd = Wt "show" := by
                      unfold lHEADS at hh
                      simp only [List.mem_cons, List.mem_nil_iff, or_false] at hh
                      rcases hh with z | z | z | z | z | z | z | z | z
                      · exact absurd z n_right
                      · exact absurd z n_may
                      · exact absurd z n_many
                      · exact absurd z n_nth
                      · exact absurd z n_number
                      · exact absurd z n_sure
                      · exact absurd z n_fewest
                      · exact absurd z n_more
                      · exact z
                    rw [if_pos e_show] at q
                    exact ⟨_, rfl, l, rfl, q _ srf⟩
end
end BR
set_option Elab.async false
set_option linter.all false
set_option maxRecDepth 100000
set_option maxHeartbeats 4000000
/-! X1: a def called while an exception is held: its argument is the pinned object -/
namespace BR
open PySem PySem.Spec PyProof.Rows L2 L2H
/-- what a def promises while the object at po stands pinned -/
structure FnP (prg : Program) (wd : World) (Kf : PySem.W.Frag) (gm : Str → Option Value) (hb0 : Heap) (cxt : CXT) (lv : Nat) (fa : Addr) (fda : FuncData) (pars : List Str) (spc : Sp) (po : Addr × Obj) : Prop where
  len : ∀ ws G U X, spc ws G U X → ws.length = pars.length
  run : ∀ (ar : Around) (outs : List Env) (st : Shared) (G : Hp) (ags : Args) (uv : List Value) (ws : List V) (U : VK) (X : XK), RoomH lv ar → PinOk outs G st po → Env0 prg wd Kf gm hb0 ar outs st G → BindsTo st fda ags (pars.zip uv) → Vals ws uv → spc ws G U X →
    codeAny (model prg wd) ar (.call (.ref fa) ags) (CR cxt outs prg wd G st U X) st
/-- it keeps its promise where its body's walk does -/
theorem funP_okP {prg : Program} {wd : World} {Kf : PySem.W.Frag} {gm : Str → Option Value} {hb0 : Heap} {cxt : CXT} {lv : Nat} {fa : Addr} {fda : FuncData} {x qn : Str} {sm : Stmt} {NN pars : List Str} {spc : Sp} {po : Addr × Obj} (FF : FunP Kf x qn sm fa fda)
    (sc : FnScope NN pars (defScope sm)) (len : ∀ ws G U X, spc ws G U X → ws.length = pars.length)
    (bod : ∀ (cv : Value) (ar : Around) (outs : List Env) (st : Shared) (G : Hp) (ws : List V) (U : VK) (X : XK), RoomH lv (ar.deeper (envOfC qn (defScope sm) st.heap.objs.size fa cv)) → spc ws G U X →
      ∃ tt, PSs (cxH cxt prg wd Kf gm hb0 NN qn (defScope sm) fa cv ar outs st G X po) (defBody sm) tt ∧ tt { nx := fun _ G' => U .non G', rt := U } (L2.start NN ws) G) : FnP prg wd Kf gm hb0 cxt (lv + 1) fa fda pars spc po := by
  obtain ⟨co, dO, dVs, kVs, dc, pmv, an2, cv, cT, slo, rfl, look, cdk, _, _⟩ := FF.ex
  refine ⟨len, fun ar outs st G ags uv ws U X room pk en bnd rel hw => ?_⟩
  have hlw := len _ _ _ _ hw
  have KI : Kf.In st.heap := en.mod.kin.keeps fun b o e => (en.bs b o e).1
  have nolim : st.heap.NoLimit := en.mod.nolimit.keeps fun b o e => (en.bs b o e).1
  have kinds : ∀ y ∈ pars.zip uv, (defScope sm).names.lookup y.1 = some .local ∨ ((defScope sm).names.lookup y.1 = some .cell ∧ ((cellsFrom (st.heap.objs.size + 1) (defScope sm).names []).lookup y.1).isSome = true) := fun ⟨nm, vl⟩ hy => by
    rcases sc.par nm (List.of_mem_zip hy).1 with z | z
    · exact .inl z
    · exact .inr ⟨z, PySem.W.cellsFrom_some _ _ _ (.inl z)⟩
  refine codeAny_call_function room.depth (KI _ _ look) rfl sc.co sc.gen rfl (PySem.W.codeRec_of KI cdk) (bnd _ _ _ _ ?_)
  refine wpAny_newFunctionEnv_cells sc.kind kinds fun ev hev st1 inn => ?_
  subst hev
  refine ⟨nolim.keeps inn.toInCall.keep, codeAny_func ?_⟩
  obtain ⟨tt, hps, htt⟩ := bod cv ar outs st G ws U X (room.deeper _) hw
  have IV : Inv (cxH cxt prg wd Kf gm hb0 NN qn (defScope sm) fa cv ar outs st G X po) [] (L2.start NN ws) G st1 := inv_startH sc pk en hlw rel inn
  refine wpAny_mono (hps.run [] st1 (L2.start NN ws) G _ IV htt) (fun flo st2 hfl => ?_) fun ee st2 hfl => hfl
  have done : ∀ {τ : L2.St} {G' : Hp} {v : V} {u : Value}, Inv (cxH cxt prg wd Kf gm hb0 NN qn (defScope sm) fa cv ar outs st G X po) [] τ G' st2 → RelV v u → U v G' → CE outs prg wd G st U u st2 :=
    fun {τ G' v u} IJ rv qq => ⟨v, G', IJ.os, IJ.bare, IJ.base, IJ.hok, rv, qq⟩
  cases flo with
  | ret u =>
    obtain ⟨v, τ, G', IJ, rv, qq⟩ := hfl
    exact done IJ rv qq
  | next =>
    obtain ⟨τ, G', IJ, qq⟩ := hfl
    exact done (v := V.non) (u := Value.none) IJ rfl qq
  | brk => exact False.elim hfl.choose_spec.choose_spec.2
  | cont => exact False.elim hfl.choose_spec.choose_spec.2
/-- the call of such a def by its name, in a context that pins the object -/
theorem callP {Y : Cx} {cxt : CXT} {lv : Nat} {fa : Addr} {fda : FuncData} {pars : List Str} {spc : Sp} {XE : L2.St → XK} {x : Str} {pq pz : Pos} {e1 : Expr} {er : List Expr} {tz : TA} {po : Addr × Obj} (FF : FnP Y.prog Y.w Y.K Y.mg Y.base cxt lv fa fda pars spc po) (room : RoomH lv Y.A) (hpo : po ∈ Y.pn) (hg : Gl Y x) (hm : Y.mg x = some (.ref fa))
    (hkp : PySem.W.keepIn Y.K (.ref fa) = true) (bnd : Binds Y.K fda pars []) (hxx : ∀ τ, PassesAt cxt Y τ (XE τ)) (args : PA Y (e1 :: er) tz) (hdb : (x == ("__debug__" : Str)) = false := by decide) (hst : starEach (e1 :: er) Y.env = (false, eval e1 Y.env) :: starEach er Y.env := by rfl)
    (hpl : (backTo pz (starEach er Y.env)).any (·.1) = false := by rfl) : PE Y (.Call (.Name x pq) (e1 :: er) [] pz) (tCallS spc XE tz) := by
  refine ⟨fun pinned st τ G U IV hh => ?_⟩
  refine wpAny_Call_Name_kw (ld_glob IV hg hm ?_ hdb)
  refine PySem.W.callWith_K (h₀ := Y.base) IV.ok.mod.kin hkp (thn (args.run pz pinned st τ G _ IV hh) fun uv st1 ⟨ws, G1, IV1, rel, qq⟩ => ⟨IV1.kIn, ?_⟩) hst hpl
  have hlu : uv.length = pars.length := by rw [← rel.length]; exact FF.len _ _ _ _ qq
  have bb := bnd st1 uv IV1.kIn (by rw [List.append_nil]; exact hlu)
  rw [List.append_nil] at bb
  have P9 := IV1.pin po (List.mem_append_left _ hpo)
  have pk : PinOk Y.stack G1 st1 po := ⟨P9.1, P9.2.1, fun z => (List.mem_cons.mp (IV1.stkSub po.1 z)).elim P9.2.2.1 P9.2.2.2.1, P9.2.2.2.2⟩
  refine wpAny_call (codeAny_mono (FF.run Y.A Y.stack st1 G1 ⟨uv, []⟩ uv ws U (XE τ) room pk IV1.env0 bb rel qq) fun rr st2 hrr => ?_)
  cases rr with
  | error ee => exact hxx τ pinned G1 st1 ee st2 IV1 hrr
  | ok flo =>
    cases flo with
    | ret u => exact IV1.after hrr
    | next => exact False.elim hrr
    | brk => exact False.elim hrr
    | cont => exact False.elim hrr
/-- isinstance(e, c), e an exception whose object is pinned -/
theorem call_isQ {Y : Cx} {po : Addr × Obj} {D : Addr} (C : ExcC Y.K D) (hpo : po ∈ Y.pn) (hz : Zc (.ref D) none po.2) (hf : ∃ vs, po.2.data = .fields vs) : CallR Y (.builtin "isinstance") (rIsE Y.K D po.1) := by
  intro pinned st τ G xs us U IV rel hh
  obtain ⟨c, cv, bo, rfl, hcv, hk, qq⟩ := hh
  cases rel with
  | cons r1 r2 =>
    cases r2 with
    | cons r3 r4 =>
      cases r4
      cases r1
      have ev := hcv _ r3
      subst ev
      obtain ⟨got, _⟩ := IV.pin po (List.mem_append_left _ hpo)
      obtain ⟨fv, hv⟩ := hf
      have JI : PySem.W.InstAt st.heap po.1 po.2 D none := by
        obtain ⟨pa, ⟨c1, c2, c3, c4⟩⟩ := po
        obtain ⟨z1, z2⟩ := hz
        dsimp only at z1 z2 hv
        subst z1 z2 hv
        exact ⟨got, rfl, rfl, trivial⟩
      exact PySem.W.kia_one (PySem.W.handS_kitx_exc C.hg C.hk C.hs C.hd C.ha C.hn C.ht C.hm) IV.kIn JI hk (fun z => nomatch z) fun tk => ⟨.bl bo, G, IV.kept (t' := tk) fun _ _ z => z, rfl, qq⟩
end BR
set_option Elab.async false
set_option linter.all false
set_option maxRecDepth 100000
set_option maxHeartbeats 4000000
/-! X2: try: body, except x as n: suite, where the caught object is told of behind the suite too -/
namespace BR
open PySem PySem.Spec PyProof.Rows L2
/-- a caught exception, told of -/
def ExE (cl : Value) (a : Addr) : HO := .ext fun g => ∃ ob : Obj, g.get? a = some ob ∧ Zc cl none ob ∧ ∃ fv, ob.data = .fields fv
/-- what the clause wishes: the suite ends with the object tracked -/
def wKp (Kf : PySem.W.Frag) (c : Value) (i : Nat) (tsu : Addr → Value → TS) (Wo : WX) (D : Ends) : WX := fun cl d τ G =>
  d = none ∧ ∃ bo, PySem.W.exmOne Kf cl c = some bo ∧ (bo = true → ∀ a, G a = none → tsu a cl { nx := fun τ' G' => G' a = none ∧ D.nx (τ'.set i none) (upd G' a (ExE cl a)), rt := fun _ _ => False } (τ.set i (some (.ref a))) G) ∧
  (bo = false → Wo cl d τ G)
section
variable {Y : Cx} {pinned : List (Addr × Obj)} {τ : L2.St} {G : Hp} {st : Shared}
/-- an object that is new since the entry, told of from now on -/
theorem track {a : Addr} {cl : Value} {ob : Obj} {fv : Array Value} (IV : Inv Y pinned τ G st) (new : Y.s_0.heap.get? a = none) (got : st.heap.get? a = some ob) (ga : G a = none) (hz : Zc cl none ob) (hd : ob.data = .fields fv)
    (nL : a ≠ Y.env.locals) (nC : ∀ x c, Y.env.cells.lookup x = some c → c ≠ a) (nP : ∀ q ∈ Y.pn ++ pinned, q.1 ≠ a) : Inv Y pinned τ (upd G a (ExE cl a)) st where
  ok := IV.ok
  os := IV.os
  bare := IV.bare
  base := {
    keep := IV.base.keep
    slot := IV.base.slot
    free := fun b o e n hx => by
      rw [upd_ne (fun z => by rw [z, new] at e; cases e)]
      exact IV.base.free b o e n hx
    there := IV.base.there
    tups := fun b xs e => by
      have := IV.base.tups b xs e
      rw [upd_ne (ne_of_none this ga)]
      exact this
    frzs := fun b o u e => by
      have := IV.base.frzs b o u e
      rw [upd_ne (ne_of_none this ga)]
      exact this
    tbls := fun b ps e => by
      obtain ⟨more, this⟩ := IV.base.tbls b ps e
      exact ⟨more, by rw [upd_ne (ne_of_none this ga)]; exact this⟩ }
  loc := IV.loc
  cell := IV.cell
  free := by rw [upd_ne nL.symm]; exact IV.free
  freeC := fun x c e => by rw [upd_ne (nC x c e)]; exact IV.freeC x c e
  pin := fun q hq => by
    obtain ⟨z1, z2, z3, z4, z5⟩ := IV.pin q hq
    exact ⟨z1, by rw [upd_ne (nP q hq)]; exact z2, z3, z4, z5⟩
  hok := HOk.laidN IV.hok (fun _ _ z => z) ga ⟨⟨ob, got, hz, fv, hd⟩, ⟨ob, got⟩, fun _ _ ⟨o2, e2, r2⟩ k => ⟨o2, k _ e2, r2⟩⟩
  len := IV.len
end
/-- isinstance(e, c), e an exception that is told of -/
theorem call_isX {Y : Cx} {D : Addr} (C : ExcC Y.K D) : CallR Y (.builtin "isinstance") (fun xs G U => ∃ (a : Addr) (c : V) (cv : Value) (bo : Bool), xs = [.ref a, c] ∧ G a = some (ExE (.ref D) a) ∧ (∀ u, RelV c u → u = cv) ∧ PySem.W.kitOne Y.K (.ref D) cv = some bo ∧ U (.bl bo) G) := by
  intro pinned st τ G xs us U IV rel hh
  obtain ⟨a, c, cv, bo, rfl, hG, hcv, hk, qq⟩ := hh
  cases rel with
  | cons r1 r2 =>
    cases r2 with
    | cons r3 r4 =>
      cases r4
      cases r1
      have ev := hcv _ r3
      subst ev
      have oko : ObjOk Y.prog Y.w G st.heap a (ExE (.ref D) a) := IV.hok a _ hG
      obtain ⟨⟨ob, got, hz, fv, hv⟩, _, _⟩ := oko
      have JI : PySem.W.InstAt st.heap a ob D none := by
        obtain ⟨c1, c2, c3, c4⟩ := ob
        obtain ⟨z1, z2⟩ := hz
        dsimp only at z1 z2 hv
        subst z1 z2 hv
        exact ⟨got, rfl, rfl, trivial⟩
      exact PySem.W.kia_one (PySem.W.handS_kitx_exc C.hg C.hk C.hs C.hd C.ha C.hn C.ht C.hm) IV.kIn JI hk (fun z => nomatch z) fun tk => ⟨.bl bo, G, IV.kept (t' := tk) fun _ _ z => z, rfl, qq⟩
section
variable {Y : Cx} {x n : Str} {c : Value} {i : Nat} {bdy sut : List Stmt} {s0 : Stmt} {pn1 pz pz2 : Pos} {tbd : WX → TS} {tsu : Addr → Value → TS} {Wo : WX}
/-- THE RULE: try: bdy, except x as n: sut -/
theorem try_keep (hst : Y.stack = Y.env :: Y.outer) (hfm : Y.env.frame = some Y.env.locals) (nd : Y.N.Nodup) (hi : Y.N[i]? = some n) (hlo : Y.env.kindOf n = some .local) (hc : Names Y x c) (tk : Takes Y Wo) (hex : Y.ex = [])
    (hb : ∀ (W : WX) (pl : List (Addr × Obj)) (xe : Value → Shared → Prop), Takes (Y.tr pl xe) W → PassesOwn (model Y.prog Y.w) Y.A Y.env xe → PSs (Y.tr pl xe) bdy (tbd W))
    (hsu : ∀ (a : Addr) (ob : Obj) (cl : Value) (pl : List (Addr × Obj)), Zc cl none ob → (∃ fv, ob.data = .fields fv) → PSs (Y.suite a ((a, ob) :: pl)) (s0 :: sut) (tsu a cl)) :
    PS Y (.Try bdy [.ExceptHandler (some (.Name x pn1)) (some n) (s0 :: sut) pz2] [] [] pz) (fun D τ G => tbd (wKp Y.K c i tsu Wo D) D τ G) := by
  refine ⟨fun pinned st τ G D IV hh => ?_⟩
  have okY := IV.ok
  have frs_eq : Y.A.frames = some (Y.env :: Y.outer) := by rw [okY.frames, hst]
  have loc_n : Loc Y.env.scope n := .inl hlo
  refine wpAny_Try_except ?_
  refine wpAny_mono ((hb (wKp Y.K c i tsu Wo D) (Y.pn ++ pinned) (fun ee stA => wpAny (model Y.prog Y.w) Y.A (noteFrame ee Y.env) (fun _ stB => wpAny (model Y.prog Y.w) Y.A (setFlight ee none) (fun _ stC =>
    wpAny (model Y.prog Y.w) Y.A (handleBy ee Y.env [.ExceptHandler (some (.Name x pn1)) (some n) (s0 :: sut) pz2]) (L2.SP Y pinned D) Y.xe stC) Y.xe stB) Y.xe stA) (fun u stD flown => ?_) PassesOwn.looking).run [] st τ G D (IV.toTry _) hh) (fun flo stD hfl => ?_) (fun ee stD z => z)
  · obtain ⟨a, Bs, sJ, pns, τ1, G1, cl, d, rfl, IJ', nbs, ups, sky0, ga, oss, ags, hdn, bo, hbo, yes, no⟩ := flown
    subst hdn
    have IJ : Inv Y pinned τ1 G1 sJ := IJ'.ofTry okY
    have sky1 : Sky Bs (Y.env :: Y.outer) a (Zc cl none) Y.env.locals stD.heap := by rw [← hst]; exact sky0
    show wpAny (model Y.prog Y.w) Y.A (noteFrame (.ref a) Y.env) _ _ _
    refine Sky.land Zc.steady frs_eq hfm sky1 fun h3 fl3 up3 => ?_
    have IJ3 : Inv Y pinned τ1 G1 { stD with heap := h3 } := IJ.landed nbs fl3.1 (ups.trans up3) oss ags
    obtain ⟨ob3, fv3, got3, hz3, hd3⟩ := fl3.there
    have offF : ∀ {g : Heap} {ob : Obj} {fv : Array Value}, g.FunFrames Bs (Y.env :: Y.outer) → g.get? a = some ob → ob.data = .fields fv → a ∉ frs (Y.env :: Y.outer) := fun {g ob fv} ff e dd hm => by
      obtain ⟨_, ob2, e2, off⟩ := ff.mem hm
      rw [e] at e2
      cases e2
      exact off _ dd
    have nfr := offF fl3.2.2.1 got3 hd3
    have nL : a ≠ Y.env.locals := fun z => nfr (List.mem_filterMap.mpr ⟨Y.env, List.mem_cons_self, by rw [hfm, z]⟩)
    have nF : a ∉ Y.fs := fun hm => by
      obtain ⟨ev, hev, qq⟩ := List.mem_filterMap.mp hm
      exact nfr (List.mem_filterMap.mpr ⟨ev, List.mem_cons_of_mem _ hev, qq⟩)
    have newJ : sJ.heap.get? a = none := by
      cases e : sJ.heap.get? a with
      | none => rfl
      | some ob =>
        have e2 := nbs a ob e (by rw [hst]; exact nfr)
        rw [fl3.2.1] at e2
        cases e2
    have new0 : Y.s_0.heap.get? a = none := by
      cases e : Y.s_0.heap.get? a with
      | none => rfl
      | some ob =>
        obtain ⟨ob2, e2⟩ := IJ.base.there a ob e (by rw [hex]; exact fun z => nomatch z)
        rw [newJ] at e2
        cases e2
    have nC : ∀ y cc, Y.env.cells.lookup y = some cc → cc ≠ a := fun y cc e z => by
      obtain ⟨v, hv⟩ := IJ.cell y cc e
      rw [z] at hv
      obtain ⟨ob, e2, _⟩ := hv
      rw [newJ] at e2
      cases e2
    have nP : ∀ q ∈ Y.pn ++ pinned, q.1 ≠ a := fun q hq z => by
      have := (IJ.pin q hq).1
      rw [z, newJ] at this
      cases this
    have IS3 := IJ3.suite got3 hd3 ga nL nF
    refine wpAny_handleBy_cons (codeAny_handlers_test ?_) (by intro qq; cases qq)
    have LTy : PySem.W.Looks (model Y.prog Y.w) h3 (typeOf (.ref a)) cl := fun A2 Q2 E2 s2 k2 q2 => wpAny_typeOf_ref (k2 _ _ got3) (by rw [hz3.1]; exact q2)
    have LMa := PySem.W.exm_one (M := model Y.prog Y.w) (IJ3.kIn) LTy hbo
    have ask : ∀ {Q2 : Value → Shared → Prop} {E2 : Value → Shared → Prop}, Q2 c { stD with heap := h3 } → wpAny (model Y.prog Y.w) (Y.A.mark (some (.ref a))) (eval (.Name x pn1) Y.env) Q2 E2 { stD with heap := h3 } := fun {Q2 E2} q2 => by
      obtain ⟨hg, hdbg, hm | ⟨hm, hv, hnn⟩⟩ := hc
      · exact ld_glob (X := Y.suite a ((a, ob3) :: (Y.pn ++ pinned))) IS3 hg hm q2 hdbg
      · exact ld_blt (X := Y.suite a ((a, ob3) :: (Y.pn ++ pinned))) IS3 hg hm hv q2 hnn hdbg
    refine ask (LMa.here ?_)
    cases bo with
    | true =>
      refine codeAny_handlers_suite_as ?_
      refine HandSPX.lands_againZ fl3 fun h4 fl4 up4 => ?_
      have IJ4 : Inv Y pinned τ1 G1 { stD with heap := h4 } := IJ.landed nbs fl4.1 ((ups.trans up3).trans up4) oss ags
      obtain ⟨ob4, fv4, got4, hz4, hd4⟩ := fl4.there
      have IS4 := IJ4.suite got4 hd4 ga nL nF
      refine store_ok (X := Y.suite a ((a, ob4) :: (Y.pn ++ pinned))) (v := .ref a) IS4 nd hi loc_n rfl (fun s5 IS5 => ?_) (.inr hlo)
      refine wpAny_mono ((hsu a ob4 cl (Y.pn ++ pinned) hz4 ⟨_, hd4⟩).run [] s5 _ G1 _ IS5 (yes rfl a ga)) (fun flo s6 hfl => ?_) (fun _ _ z => False.elim z)
      cases flo with
      | next =>
        obtain ⟨τ6, G6, IS6, g6, q6⟩ := hfl
        refine gone_ok (X := Y.suite a ((a, ob4) :: (Y.pn ++ pinned))) IS6 nd hi hlo fun s7 IS7 => ?_
        have got7 : s7.heap.get? a = some ob4 := (IS7.pin (a, ob4) (List.mem_append_left _ List.mem_cons_self)).1
        exact ⟨_, _, track (IS7.unsuite okY) new0 got7 g6 hz4 hd4 nL nC nP, q6⟩
      | brk =>
        obtain ⟨_, _, _, zz⟩ := hfl
        exact False.elim zz
      | cont =>
        obtain ⟨_, _, _, zz⟩ := hfl
        exact False.elim zz
      | ret u =>
        obtain ⟨_, _, _, _, _, zz⟩ := hfl
        exact False.elim zz
    | false =>
      show wpAny _ Y.A (handleBy (.ref a) Y.env []) _ _ _
      refine wpAny_handleBy_nil ?_
      obtain ⟨k1, k2, k3, ob, fv, T9, oT, tz, he, hz, hd, h1, hr⟩ := id fl3
      unfold PySem.passOn
      refine wpAny_bind (wpAny_field he hd h1 ?_)
      rw [if_neg (show ¬ ((Value.ref T9 == Value.none) = true) from by simp)]
      have fin : wpAny (model Y.prog Y.w) Y.A (setFlight (.ref a) Y.env.frame) (fun _ s4 => wpAny (model Y.prog Y.w) Y.A (throw (.ref a) : Sem Flow) (L2.SP Y pinned D) Y.xe s4) Y.xe { stD with heap := h3 } := by
        rw [hfm]
        refine HandSPX.setFlight_upZ fl3 fun h4 hh4 up4 => wpAny_throw (tk _ _ ?_)
        exact ⟨a, Bs, sJ, pinned, τ1, G1, cl, none, rfl, IJ, nbs, (ups.trans up3).trans up4, .inr (.inr (by rw [hst]; exact hh4)), ga, oss, ags, no rfl⟩
      first
        | exact wpAny_bind (wpAny_pure (wpAny_bind fin))
        | exact wpAny_bind fin
  · cases flo with
    | next =>
      obtain ⟨τ1, G1, IJ, qq⟩ := hfl
      exact wpAny_execs_nil ⟨τ1, G1, IJ.ofTry okY, qq⟩
    | brk =>
      obtain ⟨τ1, G1, IJ, qq⟩ := hfl
      exact ⟨τ1, G1, IJ.ofTry okY, qq⟩
    | cont =>
      obtain ⟨τ1, G1, IJ, qq⟩ := hfl
      exact ⟨τ1, G1, IJ.ofTry okY, qq⟩
    | ret u =>
      obtain ⟨v, τ1, G1, IJ, rr, qq⟩ := hfl
      exact ⟨v, τ1, G1, IJ.ofTry okY, rr, qq⟩
end
end BR
set_option Elab.async false
set_option linter.all false
set_option maxRecDepth 100000
set_option maxHeartbeats 4000000
/-! X3: isinstance(e, (c1, c2, ..)) over a caught exception; what the classes say -/
namespace BR
open PySem PySem.Spec PyProof.Rows L2
theorem call_isXT {Y : Cx} {D : Addr} (C : ExcC Y.K D) : CallR Y (.builtin "isinstance") (fun xs G U => ∃ (a tp : Addr) (cs : List V) (us : List Value) (bo : Bool), xs = [.ref a, .ref tp] ∧ G a = some (ExE (.ref D) a) ∧ G tp = some (.tup cs) ∧ Paired ClsV cs us ∧ PySem.W.kitAny Y.K (.ref D) us = some bo ∧ U (.bl bo) G) := by
  intro pinned st τ G xs us U IV rel hh
  obtain ⟨a, tp, cs, uz, bo, rfl, hG, hT, hcs, hk, qq⟩ := hh
  cases rel with
  | cons r1 r2 =>
    cases r2 with
    | cons r3 r4 =>
      cases r4
      cases r1
      cases r3
      have oko : ObjOk Y.prog Y.w G st.heap a (ExE (.ref D) a) := IV.hok a _ hG
      obtain ⟨⟨ob, got, hz, fv, hv⟩, _, _⟩ := oko
      have JI : PySem.W.InstAt st.heap a ob D none := by
        obtain ⟨c1, c2, c3, c4⟩ := ob
        obtain ⟨z1, z2⟩ := hz
        dsimp only at z1 z2 hv
        subst z1 z2 hv
        exact ⟨got, rfl, rfl, trivial⟩
      obtain ⟨_, its, rv, ot, h1, h2, nn, h3⟩ := (show ObjOk Y.prog Y.w G st.heap tp (.tup cs) from IV.hok tp _ hT)
      have e3 := ClsV.all hcs rv
      subst e3
      obtain ⟨tc, td, tt, ts⟩ := ot
      simp only at h2 h3
      subst h2 h3
      exact PySem.W.kia_tup (PySem.W.handS_kitx_exc C.hg C.hk C.hs C.hd C.ha C.hn C.ht C.hm) IV.kIn JI h1 hk (fun z => nomatch z) fun tk => ⟨.bl bo, G, IV.kept (t' := tk) fun _ _ z => z, rfl, qq⟩
/-- what the exceptions' classes say -/
structure ErrT (K : PySem.W.Frag) : Prop where
  exc : ∀ e, e < 7 → ExcC K (exN K e)
  kit : ∀ e g, e < 7 → g < 7 → PySem.W.kitOne K (.ref (exN K e)) (.ref (exN K g)) = some (decide (e = g))
  any : ∀ e, e < 7 → PySem.W.kitAny K (.ref (exN K e)) [.ref (cA K "NoPlace"), .ref (cA K "NoTree"), .ref (cA K "NoWeights"), .ref (cA K "TooMany")] = some false
  val : ∀ e, e < 7 → PySem.W.kitOne K (.ref (exN K e)) (.type "ValueError") = some true
  row : ∀ e, e < 7 → PySem.W.exmOne K (.ref (exN K e)) (.ref (cA K "RowError")) = some true
/-- the exceptions' names -/
def errW (e : Nat) : List Nat := match e with
  | 0 => Wt "NoRow"
  | 1 => Wt "NoName"
  | 2 => Wt "NoKinds"
  | 3 => Wt "NoLine"
  | 4 => Wt "NoNumber"
  | 5 => Wt "NotRight"
  | _ => Wt "NoFilling"
end BR
set_option Elab.async false
set_option linter.all false
set_option maxRecDepth 100000
set_option maxHeartbeats 4000000
/-! K6: list.count over truth values -/
namespace BR
open PySem PySem.Spec PyProof.Rows L2
theorem cnt_rel (y : V) : ∀ {ys : List V} {us : List Value}, Vals ys us → ys.all flatV = true → us.countP (eqU y) = ys.countP fun z => eqV z y
  | _, _, .nil, _ => rfl
  | z :: zs, u :: us, .cons r t, f => by
    have f2 := Bool.and_eq_true_iff.mp (show (flatV z && zs.all flatV) = true from f)
    rw [List.countP_cons, List.countP_cons, cnt_rel y t f2.2, eqU_of r f2.1]
theorem mt_countB {X : Cx} : MtR X "list.count" (fun x xs H Q => ∃ (a : Addr) (ys : List V) (y : V), x = V.ref a ∧ xs = [y] ∧ SqL X.K H a ys ∧ flatV y = true ∧ ys.all flatV = true ∧ Q (.int ((ys.countP fun z => eqV z y : Nat) : Int)) H) := by
  intro pinned st τ G x xs v us U IV rx rxs hh
  obtain ⟨a, ys, y, rfl, rfl, hq, fy, fys, qq⟩ := hh
  cases rx
  cases rxs with
  | cons ry rt =>
    rename_i uy ut
    cases rt
    obtain ⟨its, rv, ⟨⟨cc, dn, dt, ss⟩, nn, got, hc, hdn, hd⟩, hln⟩ := IV.list hq
    simp only at hc hd
    subst hc hd
    have cn := cnt_rel y rv fys
    refine call_meets PySem.F.slot_list_count ⟨_, got, rfl⟩ PySem.F.entry_list_count (PySem.F.args_list_count_2 _ _) (SeqAt.list_countAt a its.toArray nn dn ss uy (eqU y)) ⟨got, fun u2 hu2 => mem_eqAt ry fy rv fys u2 (by simpa using hu2), ?_⟩
    refine ⟨.int ((its.countP (eqU y) : Nat) : Int), G, IV.tok _, ⟨_, rfl⟩, ?_⟩
    rw [cn]
    exact qq
end BR
set_option Elab.async false
set_option linter.all false
set_option maxRecDepth 100000
set_option maxHeartbeats 4000000
/-! X4: a method's call in a try's body -/
namespace BR
open PySem PySem.Spec PyProof.Rows L2
/-- o.m(..) whose exceptions the state's wish takes -/
def tMethW (C : Addr) (m : Str) (spc : Sp) (XE : L2.St → XK) (to : TE) (tz : TA) : TE := fun τ G U => to τ G fun v G1 => ∃ a dx fl, v = .ref a ∧ G1 a = some (.ins C dx fl) ∧ fl.lookup m = none ∧ tz τ G1 fun ws G2 => spc (v :: ws) G2 U (XE τ)
theorem Dm.methW {Y : Cx} {lv jj : Nat} {C : Addr} {m : Str} {pars : List Str} {spc : Sp} {o e1 : Expr} {er : List Expr} {to : TE} {tz : TA} {az pz : Pos} {W : WX} {pl : Sem Bool} (GM : Dm Y.prog Y.w Y.K Y.mg Y.base (L2.CX Y.prog Y.w) lv C m pars spc) (room : Room jj Y.A) (tk : Takes Y W) (ho : PE Y o to) (args : PA Y (e1 :: er) tz)
    (hk : lv ≤ jj := by decide) (hst : starEach (e1 :: er) Y.env = (false, eval e1 Y.env) :: starEach er Y.env := by rfl) (hpl : (backTo pz (starEach er Y.env)).any (·.1) = false := by rfl)
    (hev : eval (.Call (.Attribute o m az) (e1 :: er) [] pz) Y.env = (do
      let vv ← eval o Y.env
      standAt az.atName
      let (gg, ff) ← holding [vv] (getMethod vv m pl)
      callWith pz gg ff (backTo pz (starEach (e1 :: er) Y.env)) (backToKw pz (keywordEach [] Y.env))) := by rfl) : PE Y (.Call (.Attribute o m az) (e1 :: er) [] pz) (tMethW C m spc (WE W) to tz) := by
  obtain ⟨fa, fda, cl, hm, bnd, FF⟩ := GM.ex
  refine ⟨fun pinned st τ G U IV hh => ?_⟩
  refine PySem.W.methodCall_KW (pl := pl) (thn (ho.run pinned st τ G _ IV hh) fun u st1 ⟨v, G1, IV1, rv, a, dx, fl, ev, ea, lk, qq⟩ => ?_) hev
  subst ev
  obtain rfl : u = Value.ref a := rv
  refine getmeth_ok IV1 ea cl hm lk ?_
  refine PySem.W.callWith_K (first := [.ref a]) (h₀ := Y.base) IV.ok.mod.kin hm.kp (thn (args.run pz pinned st1 τ G1 _ IV1 qq) fun uv st2 ⟨ws, G2, IV2, rel, q2⟩ => ⟨IV2.kIn, ?_⟩) hst hpl
  exact run_fnS (us := .ref a :: uv) (vs := .ref a :: ws) FF (room.mono hk) bnd (passAt tk τ) IV2 (.cons rfl rel) q2
end BR
set_option Elab.async false
set_option linter.all false
set_option maxRecDepth 100000
set_option maxHeartbeats 4000000
/-! L7: the law's helpers: word, due -/
namespace BR
open PySem PySem.Spec PyProof.Rows L2
section
variable {P : Program} {w : World} {K : PySem.W.Frag} {mg : Str → Option Value} {base : Heap} {f : Addr} {fd : FuncData}
/-- the number of an exception, as _law_word tells them apart -/
def spWord (K : PySem.W.Frag) (a : Addr) (e : Nat) : Sp := fun vs H Q _ => vs = [.ref a] ∧ ∀ H', Same H H' → Q (.str (Tx (9 :: errW e))) H'
theorem sc__law_word : FnScope ["caught", "kinds"] ["caught"] (defScope s__law_word) := ⟨rfl, rfl, rfl, by decide +kernel, rfl, by decide +kernel, by decide +kernel⟩
theorem ok__law_word (T : Txt K mg) (ET : ErrT K) (F : FunP K "_law_word" "_law_word" s__law_word f fd) (po : Addr × Obj) (e : Nat) (he : e = 3 ∨ e = 4 ∨ e = 5 ∨ e = 6) (hz : Zc (.ref (exN K e)) none po.2) (hf : ∃ fv, po.2.data = .fields fv) :
    FnP P w K mg base (L2.CX P w) 1 f fd ["caught"] (spWord K po.1 e) po := by
  refine funP_okP F sc__law_word (fun vs H Q E h => ?_) (fun cdv A outer s H vs Q E hr h => ?_)
  · obtain ⟨rfl, _⟩ := h
    rfl
  · obtain ⟨rfl, q⟩ := h
    have he7 : e < 7 := by omega
    have hC := ET.exc e he7
    have hpo : po ∈ (L2H.cxH (L2.CX P w) P w K mg base ["caught", "kinds"] "_law_word" (defScope s__law_word) f cdv A outer s H E po).pn := List.mem_singleton_self po
    refine ⟨_, (pss_cons (ps_set (i := 1) sc__law_word.nd rfl (.inl rfl) (pe_lst (pa_cons (pe_callB (call_isQ hC hpo hz hf) (by rfl) T.b_isinstance (by decide +kernel) (pa_cons (pv 0) (pa_cons (pe_glob (v := .ref _) rfl T.g_NoNumber rfl) pa_nil))) (pa_cons (pe_callB (call_isQ hC hpo hz hf) (by rfl) T.b_isinstance (by decide +kernel) (pa_cons (pv 0) (pa_cons (pe_glob (v := .ref _) rfl T.g_NotRight rfl) pa_nil))) (pa_cons (pe_callB (call_isQ hC hpo hz hf) (by rfl) T.b_isinstance (by decide +kernel) (pa_cons (pv 0) (pa_cons (pe_glob (v := .ref _) rfl T.g_NoFilling rfl) pa_nil))) pa_nil)))))
       (pss_cons (ps_expr (pe_bm PySem.F.plainAttrs_list PySem.F.slot_list_append PySem.F.type_list_append mt_append (pv 1) (pa_cons (pe_callB (call_isQ hC hpo hz hf) (by rfl) T.b_isinstance (by decide +kernel) (pa_cons (pv 0) (pa_cons (pe_glob (v := .ref _) rfl T.g_NoLine rfl) pa_nil))) pa_nil)))
       (pss_one (ps_ret (pe_op op_add_str pe_str (pe_ix (show IxR _ (rIxL K) from ix_list) (pe_lst (pa_cons pe_str (pa_cons pe_str (pa_cons pe_str (pa_cons pe_str pa_nil))))) (pe_bm PySem.F.plainAttrs_list PySem.F.slot_list_index PySem.F.type_list_index mt_index (pv 1) (pa_cons pe_bl pa_nil)) (fun _ _ => rfl))))))) , ?_⟩
    have kt : ∀ g, g < 7 → PySem.W.kitOne K (.ref (exN K e)) (.ref (exN K g)) = some (decide (e = g)) := fun g hg => ET.kit e g he7 hg
    refine ⟨_, rfl, _, .ref (exN K 4), _, rfl, fun u r => r, kt 4 (by decide), _, rfl, _, .ref (exN K 5), _, rfl, fun u r => r, kt 5 (by decide), _, rfl, _, .ref (exN K 6), _, rfl, fun u r => r, kt 6 (by decide), by show 3 ≤ sizeLine; decide, fun Z hZ => ?_⟩
    have eZ : (upd H Z (.lst [V.bl (decide (e = 4)), V.bl (decide (e = 5)), V.bl (decide (e = 6))])) Z = some (.lst [V.bl (decide (e = 4)), V.bl (decide (e = 5)), V.bl (decide (e = 6))]) := upd_same
    have sZ : Same H (upd H Z (.lst [V.bl (decide (e = 4)), V.bl (decide (e = 5)), V.bl (decide (e = 6))])) := same_upd hZ
    generalize upd H Z (.lst [V.bl (decide (e = 4)), V.bl (decide (e = 5)), V.bl (decide (e = 6))]) = H1 at eZ sZ ⊢
    refine ⟨_, rfl, tyL eZ, _, rfl, _, .ref (exN K 3), _, rfl, fun u r => r, kt 3 (by decide), Z, _, _, rfl, rfl, eZ, by show 3 < sizeLine; decide, ?_⟩
    have eZ2 : (upd H1 Z (.lst ([V.bl (decide (e = 4)), V.bl (decide (e = 5)), V.bl (decide (e = 6))] ++ [V.bl (decide (e = 3))]))) Z = some (.lst [V.bl (decide (e = 4)), V.bl (decide (e = 5)), V.bl (decide (e = 6)), V.bl (decide (e = 3))]) := upd_same
    have sZ2 : Same H (upd H1 Z (.lst ([V.bl (decide (e = 4)), V.bl (decide (e = 5)), V.bl (decide (e = 6))] ++ [V.bl (decide (e = 3))]))) := fun x o ex => by
      rw [upd_ne (ne_of_none ex hZ)]
      exact sZ x o ex
    generalize upd H1 Z (.lst ([V.bl (decide (e = 4)), V.bl (decide (e = 5)), V.bl (decide (e = 6))] ++ [V.bl (decide (e = 3))])) = H2 at eZ2 sZ2 ⊢
    refine ⟨by show 4 ≤ sizeLine; decide, fun Y hY => ?_⟩
    have eY : (upd H2 Y (.lst [V.str (Str.ofString "NoNumber"), V.str (Str.ofString "NotRight"), V.str (Str.ofString "NoFilling"), V.str (Str.ofString "NoLine")])) Y = some (.lst [V.str (Str.ofString "NoNumber"), V.str (Str.ofString "NotRight"), V.str (Str.ofString "NoFilling"), V.str (Str.ofString "NoLine")]) := upd_same
    have sY : Same H2 (upd H2 Y (.lst [V.str (Str.ofString "NoNumber"), V.str (Str.ofString "NotRight"), V.str (Str.ofString "NoFilling"), V.str (Str.ofString "NoLine")])) := same_upd hY
    generalize upd H2 Y (.lst [V.str (Str.ofString "NoNumber"), V.str (Str.ofString "NotRight"), V.str (Str.ofString "NoFilling"), V.str (Str.ofString "NoLine")]) = H3 at eY sY ⊢
    have eZ3 := sY _ _ eZ2
    have q3 := q H3 (sZ2.trans sY)
    have fin : ∀ z : Str, Tx (9 :: errW e) = Str.ofString "\t" ++ z → z.length ≤ 100 → ∃ i j, V.str (Str.ofString "\t") = V.str i ∧ V.str z = V.str j ∧ i.length + j.length ≤ sizeLine ∧ Q (.str (i ++ j)) H3 := fun z hz2 hl => ⟨_, _, rfl, rfl, sl_le (by show 1 + z.length ≤ _; omega), by rw [← hz2]; exact q3⟩
    rcases he with rfl | rfl | rfl | rfl
    · refine ⟨_, rfl, tyL eZ3, Z, _, _, 3, _, rfl, rfl, .inl (.inl eZ3), rfl, rfl, rfl, rfl, fun m z' hm hz' => ?_, Y, _, _, _, rfl, rfl, .inl (.inl eY), atI_nat (j := 3) rfl, fin _ rfl (by decide)⟩
      match m, hm with
      | 0, _ => cases hz'; rfl
      | 1, _ => cases hz'; rfl
      | 2, _ => cases hz'; rfl
    · refine ⟨_, rfl, tyL eZ3, Z, _, _, 0, _, rfl, rfl, .inl (.inl eZ3), rfl, rfl, rfl, rfl, fun m z' hm hz' => absurd hm (Nat.not_lt_zero _), Y, _, _, _, rfl, rfl, .inl (.inl eY), atI_nat (j := 0) rfl, fin _ rfl (by decide)⟩
    · refine ⟨_, rfl, tyL eZ3, Z, _, _, 1, _, rfl, rfl, .inl (.inl eZ3), rfl, rfl, rfl, rfl, fun m z' hm hz' => ?_, Y, _, _, _, rfl, rfl, .inl (.inl eY), atI_nat (j := 1) rfl, fin _ rfl (by decide)⟩
      match m, hm with
      | 0, _ => cases hz'; rfl
    · refine ⟨_, rfl, tyL eZ3, Z, _, _, 2, _, rfl, rfl, .inl (.inl eZ3), rfl, rfl, rfl, rfl, fun m z' hm hz' => ?_, Y, _, _, _, rfl, rfl, .inl (.inl eY), atI_nat (j := 2) rfl, fin _ rfl (by decide)⟩
      match m, hm with
      | 0, _ => cases hz'; rfl
      | 1, _ => cases hz'; rfl
end
end BR
set_option Elab.async false
set_option linter.all false
set_option maxRecDepth 100000
set_option maxHeartbeats 4000000
/-! L8: the law's helpers: due -/
namespace BR
open PySem PySem.Spec PyProof.Rows L2
theorem tellM_err {k e : Nat} {hd l more : List Nat} (h : tellM k hd l more = .error e) : e = 4 ∨ e = 5 ∨ e = 6 := by
  unfold tellM at h
  repeat' split at h
  all_goals first
    | (cases h; omega)
    | (cases h)
/-- what the law waits for -/
def dueT (k : Nat) (hd l more : List Nat) : List Nat :=
  if hd = Wt "number" ∧ rowBy k more = false then 9 :: errW 3
  else match tellM k hd l more with
    | .ok t => t
    | .error e => 9 :: errW e
section
variable {P : Program} {w : World} {K : PySem.W.Frag} {mg : Str → Option Value} {base : Heap} {f : Addr} {fd : FuncData}
def spDue (K : PySem.W.Frag) : Sp := fun vs H Q _ => ∃ (k : Nat) (hd l more : List Nat), vs = [nI k, .str (Tx hd), .str (Tx l), .str (Tx more)] ∧ TldOk k hd l more ∧ ∀ H', Same H H' → Q (.str (Tx (dueT k hd l more))) H'
/-- the suite: found = _law_word(e) -/
def tsDue (K : PySem.W.Frag) (a : Addr) (cls : Value) (d : Option Addr) : TS := fun D σ H => ∃ e : Nat, d = none ∧ cls = .ref (exN K e) ∧ (e = 3 ∨ e = 4 ∨ e = 5 ∨ e = 6) ∧ tAsg (tCallS (spWord K a e) (fun _ => E0) (tCons (tVar 5) tNil)) (gName 4) D σ H
theorem sc__law_due : FnScope ["k", "head", "row", "more", "found", "e"] ["k", "head", "row", "more"] (defScope s__law_due) := ⟨rfl, rfl, rfl, by decide +kernel, rfl, by decide +kernel, by decide +kernel⟩
theorem ok__law_due (T : Txt K mg) (ET : ErrT K) (F : FunP K "_law_due" "_law_due" s__law_due f fd) (g__law_is_line : Dk P w K mg base CX0 1 "_law_is_line" ["k", "row"] spLLine) (g__law_told_of : Dk P w K mg base (L2.CX P w) 7 "_law_told_of" ["k", "head", "row", "more"] (spTold K))
    {fw : Addr} {fdw : FuncData} (FW : FunP K "_law_word" "_law_word" s__law_word fw fdw) (mw : mg "_law_word" = some (.ref fw)) (bw : Binds K fdw ["caught"] []) : FnOk P w K mg base CX0 8 f fd ["k", "head", "row", "more"] (spDue K) := by
  refine F.ok sc__law_due (fun vs H Q E h => ?_) (fun cdv A outer s H vs Q E hr h => ?_)
  · obtain ⟨k, hd, l, more, rfl, _⟩ := h
    rfl
  · obtain ⟨k, hd, l, more, rfl, hT, q⟩ := h
    refine ⟨_, pss_cons (ps_if (PW.pt (pw_and (pt_cmpR op_eq (pv 1) pe_str (nomark _)) (pw_and1 (pt_not (pt_val (g__law_is_line.call hr pass0 (pa_cons (pv 0) (pa_cons (pv 3) pa_nil))))))))
  (pss_one (ps_ret pe_str))
  pss_nil)
 (pss_cons (ps_set (i := 4) sc__law_due.nd rfl (.inl rfl) pe_str)
 (pss_cons (L2.ps_try_as (i := 5) (c := Value.ref (cA K "RowError")) (Wout := fun _ _ _ _ => False) (tb := fun W => tAsg (tCallS (spTold K) (WE W) (tCons (tVar 0) (tCons (tVar 1) (tCons (tVar 2) (tCons (tVar 3) tNil))))) (gName 4)) (ts := tsDue K) rfl rfl sc__law_due.nd rfl rfl ⟨rfl, by decide, .inl T.g_RowError⟩ (fun _ _ ⟨_, _, _, _, _, _, _, _, _, _, _, _, _, _, _, _, z⟩ => z.elim)
   (fun W pn xe tk _ => pss_one (ps_set (i := 4) sc__law_due.nd rfl (.inl rfl) (g__law_told_of.callS hr tk (pa_cons (pv 0) (pa_cons (pv 1) (pa_cons (pv 2) (pa_cons (pv 3) pa_nil)))))))
   (fun a oe cls d pn hz hf => ⟨fun pins s' σ H' D I ⟨e, hd0, hc0, he, hh⟩ => (pss_one (ps_set (i := 4) sc__law_due.nd rfl (.inl rfl) (callP (po := (a, oe)) (XE := fun _ => E0) (ok__law_word T ET FW (a, oe) e he (by rw [← hc0, ← hd0]; exact hz) hf) ⟨by have := (L2H.roomH_of (hr.mono (show 1 ≤ 7 by decide))).dp; exact this, by have := (L2H.roomH_of (hr.mono (show 1 ≤ 7 by decide))).un; exact this⟩ List.mem_cons_self (by rfl) mw FW.kp bw (fun _ _ _ _ _ _ _ ⟨_, _, _, _, _, _, _, _, _, _, _, _, z⟩ => z) (pa_cons (pv 5) pa_nil)))).run pins s' σ H' D I hh⟩))
 (pss_one (ps_ret (pv 4))))), ?_⟩
    have hl := rowBy_len hT.row
    have srf : Same H H := fun x o e => e
    refine ⟨_, rfl, rfl, _, rfl, ?_⟩
    rw [tx_eqW]
    refine iteB (fun c1 => ?_) (fun c1 => ?_)
    · have c1' := of_decide_eq_true c1
      obtain ⟨as, ln⟩ := hT.as c1'
      refine ⟨_, rfl, _, rfl, k, more, rfl, hT.k4, as, ln, fun H1 s1 => ⟨_, rfl, ?_⟩⟩
      cases cr : rowBy k more with
      | false =>
        refine iteT ?_
        have := q H1 s1
        unfold dueT at this
        rw [if_pos ⟨c1', cr⟩] at this
        exact this
      | true =>
        refine iteF ?_
        have ed : dueT k hd l more = (match tellM k hd l more with
            | .ok t => t
            | .error e => 9 :: errW e) := by
          unfold dueT
          rw [if_neg (fun z => by rw [cr] at z; cases z.2)]
        refine ⟨_, rfl, _, rfl, _, rfl, _, rfl, k, hd, l, more, rfl, hT, ?_⟩
        cases et : tellM k hd l more with
        | ok t =>
          rw [et] at ed
          intro H2 s2
          refine ⟨_, rfl, ?_⟩
          have := q H2 (Same.trans s1 s2)
          rw [ed] at this
          exact this
        | error e =>
          rw [et] at ed
          have he := tellM_err et
          intro H2 s2
          refine ⟨true, ET.row e (by omega), fun _ a ha => ⟨e, rfl, rfl, by omega, _, rfl, rfl, fun H3 s3 => ?_⟩, fun z => nomatch z⟩
          refine ⟨_, rfl, ?_⟩
          have := q H3 (Same.trans (Same.trans s1 s2) s3)
          rw [ed] at this
          exact this
    · have c1' := of_decide_eq_false c1
      have ed : dueT k hd l more = (match tellM k hd l more with
          | .ok t => t
          | .error e => 9 :: errW e) := by
        unfold dueT
        rw [if_neg (fun z => c1' z.1)]
      refine ⟨_, rfl, _, rfl, _, rfl, _, rfl, k, hd, l, more, rfl, hT, ?_⟩
      cases et : tellM k hd l more with
      | ok t =>
        rw [et] at ed
        intro H2 s2
        refine ⟨_, rfl, ?_⟩
        have := q H2 (Same.trans srf s2)
        rw [ed] at this
        exact this
      | error e =>
        rw [et] at ed
        have he := tellM_err et
        intro H2 s2
        refine ⟨true, ET.row e (by omega), fun _ a ha => ⟨e, rfl, rfl, by omega, _, rfl, rfl, fun H3 s3 => ?_⟩, fun z => nomatch z⟩
        refine ⟨_, rfl, ?_⟩
        have := q H3 (Same.trans (Same.trans srf s2) s3)
        rw [ed] at this
        exact this
end
end BR
set_option Elab.async false
set_option linter.all false
set_option maxRecDepth 100000
set_option maxHeartbeats 4000000
/-! L9: the law's helpers: said -/
namespace BR
open PySem PySem.Spec PyProof.Rows L2
theorem sayM_err {k e : Nat} {kvs : List (L2.Key × V)} {ws : List (List Nat)} (h : sayM k kvs ws = .error e) : e < 7 := by
  have h1 : ∀ {u : List (List Nat)} {e : Nat}, deedM k kvs u = .error e → e < 7 := fun {u e} h => by
    unfold deedM at h
    repeat' split at h
    all_goals first
      | (cases h; omega)
      | (cases h)
  have h2 : ∀ {u : List (List Nat)} {e : Nat}, askM k kvs u = .error e → e < 7 := fun {u e} h => by
    unfold askM at h
    split at h
    · cases h; omega
    · split at h
      · cases h; omega
      · have := tellM_err h
        omega
  unfold sayM at h
  split at h
  · cases h; omega
  · split at h
    · cases h
    · split at h
      · split at h
        · cases h
        · rename_i e2 he2
          cases h
          exact h1 he2
      · split at h
        · cases h
        · rename_i e2 he2
          cases h
          exact h2 he2
/-- what _law_said answers -/
def SdAns (C b dx d : Addr) (H : Hp) (Q : VK) : Except Nat (Str × Nat × List (L2.Key × V)) → Prop
  | .ok (t, k, kvs) => t.length ≤ sizeLine ∧ decide (V.str (cutS t none (some 1)) = V.str (Str.ofString "\t")) = false ∧ ∀ H' d', SameB b d H H' → DeskAt H' C b dx d' k kvs → (d' = d ∨ H d' = none) → Q (.str t) H'
  | .error e => ∀ H', Same H H' → Q (.str (Tx (9 :: errW e))) H'
section
variable {P : Program} {w : World} {K : PySem.W.Frag} {mg : Str → Option Value} {base : Heap} {f : Addr} {fd : FuncData}
def spSaid (C : Addr) : Sp := fun vs H Q _ => ∃ (b dx d : Addr) (k : Nat) (kvs : List (L2.Key × V)) (N ws : List (List Nat)), vs = [.ref b, .str (Tx (TL.joinL [32] ws))] ∧ DeskAt H C b dx d k kvs ∧ Kp N k kvs ∧ NmsOk N ∧ 1 ≤ k ∧ k ≤ 4 ∧ OrdOk ws ∧ SdAns C b dx d H Q (sayM k kvs ws)
/-- the suite: caught = e -/
def tsSaid (a : Addr) (cl : Value) : TS := tAsg (tVar 4) (gName 2)
theorem sc__law_said : FnScope ["desk", "row", "caught", "found", "e", "kinds"] ["desk", "row"] (defScope s__law_said) := ⟨rfl, rfl, rfl, by decide +kernel, rfl, by decide +kernel, by decide +kernel⟩
theorem ok__law_said (T : Txt K mg) (ET : ErrT K) (F : FunP K "_law_said" "_law_said" s__law_said f fd) (g_Desk_say : Dm P w K mg base (L2.CX P w) 9 (cA K "Desk") "say" ["self", "row"] (spSay K (cA K "Desk"))) : FnOk P w K mg base CX0 10 f fd ["desk", "row"] (spSaid (cA K "Desk")) := by
  refine F.ok sc__law_said (fun vs H Q E h => ?_) (fun cdv A outer s H vs Q E hr h => ?_)
  · obtain ⟨b, dx, d, k, kvs, N, ws, rfl, _⟩ := h
    rfl
  · obtain ⟨b, dx, d, k, kvs, N, ws, rfl, hD, hK, hN, k1, k4, hO, q⟩ := h
    obtain ⟨e0, he0, hse⟩ : ∃ e0, e0 < 7 ∧ ∀ e, sayM k kvs ws = .error e → e = e0 := by
      cases es : sayM k kvs ws with
      | ok r => exact ⟨0, by decide, fun e z => nomatch z⟩
      | error e => exact ⟨e, sayM_err es, fun e2 z => by cases z; rfl⟩
    have hC := ET.exc e0 he0
    refine ⟨_, PSs.nox (pss_cons (ps_set (i := 2) sc__law_said.nd rfl (.inl rfl) pe_non)
 (pss_cons (ps_set (i := 3) sc__law_said.nd rfl (.inl rfl) pe_str)
 (pss_cons (try_keep (i := 4) (c := Value.ref (cA K "RowError")) (Wo := fun _ _ _ _ => False) (tbd := fun W => tAsg (tMethW (cA K "Desk") "say" (spSay K (cA K "Desk")) (WE W) (tVar 0) (tCons (tVar 1) tNil)) (gName 3)) (tsu := tsSaid) rfl rfl sc__law_said.nd rfl rfl ⟨rfl, by decide, .inl T.g_RowError⟩ (fun _ _ ⟨_, _, _, _, _, _, _, _, _, _, _, _, _, _, _, _, z⟩ => z.elim) rfl
   (fun W pl xe tk _ => pss_one (ps_set (i := 3) sc__law_said.nd rfl (.inl rfl) (g_Desk_say.methW hr tk (pv 0) (pa_cons (pv 1) pa_nil))))
   (fun a ob cl pl hz hf => pss_one (ps_set (i := 2) sc__law_said.nd rfl (.inl rfl) (pv 4))))
 (pss_cons (ps_if (pt_cmpR op_isN (pv 2) pe_non (nomark _))
  (pss_one (ps_ret (pe_ix (show IxR _ (rIxL K) from ix_list) (pe_lst (pa_cons (pv 3) (pa_cons pe_str pa_nil))) (pe_callTy call_int1 (by rfl) T.b_int (by decide +kernel) (pa_cons (pe_or (pe_not (pe_callB call_isi (by rfl) T.b_isinstance (by decide +kernel) (pa_cons (pv 3) (pa_cons (pe_bltn (v := .ty "str") (by rfl) T.b_str (by decide +kernel) rfl) pa_nil)))) (pe_one (pe_cmpR op_eq (pe_slice sl_str (pv 3) po_none (po_some pe_int)) pe_str (nomark _)))) pa_nil)) (fun _ _ => rfl))))
  pss_nil)
 (pss_cons (ps_set (i := 5) sc__law_said.nd rfl (.inl rfl) (pe_lst (pa_cons (pe_callB (call_isX hC) (by rfl) T.b_isinstance (by decide +kernel) (pa_cons (pv 2) (pa_cons (pe_glob (v := .ref _) rfl T.g_NoRow rfl) pa_nil))) (pa_cons (pe_callB (call_isX hC) (by rfl) T.b_isinstance (by decide +kernel) (pa_cons (pv 2) (pa_cons (pe_glob (v := .ref _) rfl T.g_NoName rfl) pa_nil))) (pa_cons (pe_callB (call_isX hC) (by rfl) T.b_isinstance (by decide +kernel) (pa_cons (pv 2) (pa_cons (pe_glob (v := .ref _) rfl T.g_NoKinds rfl) pa_nil))) pa_nil)))))
 (pss_cons (ps_set (i := 5) sc__law_said.nd rfl (.inl rfl) (pe_op op_cat (pv 5) (pe_lst (pa_cons (pe_callB (call_isX hC) (by rfl) T.b_isinstance (by decide +kernel) (pa_cons (pv 2) (pa_cons (pe_glob (v := .ref _) rfl T.g_NoLine rfl) pa_nil))) (pa_cons (pe_callB (call_isX hC) (by rfl) T.b_isinstance (by decide +kernel) (pa_cons (pv 2) (pa_cons (pe_glob (v := .ref _) rfl T.g_NoNumber rfl) pa_nil))) (pa_cons (pe_callB (call_isX hC) (by rfl) T.b_isinstance (by decide +kernel) (pa_cons (pv 2) (pa_cons (pe_glob (v := .ref _) rfl T.g_NotRight rfl) pa_nil))) pa_nil))))))
 (pss_cons (ps_expr (pe_bm PySem.F.plainAttrs_list PySem.F.slot_list_append PySem.F.type_list_append mt_append (pv 5) (pa_cons (pe_callB (call_isX hC) (by rfl) T.b_isinstance (by decide +kernel) (pa_cons (pv 2) (pa_cons (pe_glob (v := .ref _) rfl T.g_NoFilling rfl) pa_nil))) pa_nil)))
 (pss_cons (ps_if (PW.pt (pw_or (pt_val (pe_callB (call_isXT hC) (by rfl) T.b_isinstance (by decide +kernel) (pa_cons (pv 2) (pa_cons (pe_tup (pa_cons (pe_glob (v := .ref _) rfl T.g_NoPlace rfl) (pa_cons (pe_glob (v := .ref _) rfl T.g_NoTree rfl) (pa_cons (pe_glob (v := .ref _) rfl T.g_NoWeights rfl) (pa_cons (pe_glob (v := .ref _) rfl T.g_TooMany rfl) pa_nil))))) pa_nil)))) (pw_or1 (pt_not (pt_val (pe_callB (call_isX hC) (by rfl) T.b_isinstance (by decide +kernel) (pa_cons (pv 2) (pa_cons (pe_bltn (v := .ty "ValueError") (by rfl) T.b_ValueError (by decide +kernel) rfl) pa_nil))))))))
  (pss_one (ps_ret pe_str))
  pss_nil)
 (pss_cons (ps_if (pt_cmpR op_ne (pe_bm PySem.F.plainAttrs_list PySem.F.slot_list_count PySem.F.type_list_count mt_countB (pv 5) (pa_cons pe_bl pa_nil)) pe_int (nomark _))
  (pss_one (ps_ret pe_str))
  pss_nil)
 (pss_one (ps_ret (pe_op op_add_str pe_str (pe_ix (show IxR _ (rIxL K) from ix_list) (pe_lst (pa_cons pe_str (pa_cons pe_str (pa_cons pe_str (pa_cons pe_str (pa_cons pe_str (pa_cons pe_str (pa_cons pe_str pa_nil)))))))) (pe_bm PySem.F.plainAttrs_list PySem.F.slot_list_index PySem.F.type_list_index mt_index (pv 5) (pa_cons pe_bl pa_nil)) (fun _ _ => rfl)))))))))))))), ?_⟩
    refine ⟨_, rfl, b, dx, _, rfl, hD.eb, rfl, _, rfl, b, dx, d, k, kvs, N, ws, rfl, hD, hK, hN, k1, k4, hO, ?_⟩
    cases es : sayM k kvs ws with
    | ok r =>
      obtain ⟨t, k', kvs'⟩ := r
      rw [es] at q
      obtain ⟨tl, nt, q⟩ := q
      intro H1 d' sb hd' hor
      refine ⟨_, rfl, rfl, _, rfl, ?_⟩
      refine iteB (fun _ => ?_) (fun c => absurd rfl (of_decide_eq_false c))
      refine ⟨_, rfl, by show 2 ≤ sizeLine; decide, fun Z hZ => ?_⟩
      have eZ : (upd H1 Z (.lst [V.str t, V.str (Str.ofString "odd")])) Z = some (.lst [V.str t, V.str (Str.ofString "odd")]) := upd_same
      have sZ : Same H1 (upd H1 Z (.lst [V.str t, V.str (Str.ofString "odd")])) := same_upd hZ
      refine ⟨_, rfl, _, _, _, _, _, rfl, .ty "str", .base (.str _), kit_ty (r := true) (by decide +kernel), _, rfl, ?_⟩
      refine ⟨_, rfl, _, rfl, _, rfl, _, rfl, tl, rfl, .inr ⟨_, rfl, ?_⟩⟩
      rw [nt]
      refine ⟨Z, _, _, _, rfl, rfl, .inl (.inl eZ), atI_nat (j := 0) rfl, ?_⟩
      have nZb : d' = d ∨ H d' = none := hor
      exact q _ d' (fun x o hb hd2 ex => sZ _ _ (sb x o hb hd2 ex)) (hd'.same sZ) hor
    | error e =>
      obtain rfl := hse e es
      rw [es] at q
      intro H1 s1
      refine ⟨rfl, true, ET.row e he0, fun _ a ha => ⟨_, rfl, ha, ?_⟩, fun z => nomatch z⟩
      have hHa : H a = none := by
        cases y : H a with
        | none => rfl
        | some o => rw [s1 _ _ y] at ha; cases ha
      have eA : (upd H1 a (ExE (.ref (exN K e)) a)) a = some (ExE (.ref (exN K e)) a) := upd_same
      have sA : Same H (upd H1 a (ExE (.ref (exN K e)) a)) := s1.trans (same_upd ha)
      generalize upd H1 a (ExE (.ref (exN K e)) a) = HA at eA sA ⊢
      have kt : ∀ g, g < 7 → PySem.W.kitOne K (.ref (exN K e)) (.ref (exN K g)) = some (decide (e = g)) := fun g hg => ET.kit e g he0 hg
      refine ⟨_, rfl, rfl, _, rfl, ?_⟩
      refine iteB (fun c => absurd (of_decide_eq_true c) (by intro z; cases z)) (fun _ => ?_)
      refine ⟨_, rfl, a, _, .ref (exN K 0), _, rfl, eA, fun u r => r, kt 0 (by decide), _, rfl, a, _, .ref (exN K 1), _, rfl, eA, fun u r => r, kt 1 (by decide), _, rfl, a, _, .ref (exN K 2), _, rfl, eA, fun u r => r, kt 2 (by decide), by show 3 ≤ sizeLine; decide, fun Z1 h1 => ?_⟩
      have e1 : (upd HA Z1 (.lst [V.bl (decide (e = 0)), V.bl (decide (e = 1)), V.bl (decide (e = 2))])) Z1 = some (.lst [V.bl (decide (e = 0)), V.bl (decide (e = 1)), V.bl (decide (e = 2))]) := upd_same
      have t1 : Same HA (upd HA Z1 (.lst [V.bl (decide (e = 0)), V.bl (decide (e = 1)), V.bl (decide (e = 2))])) := same_upd h1
      generalize upd HA Z1 (.lst [V.bl (decide (e = 0)), V.bl (decide (e = 1)), V.bl (decide (e = 2))]) = HB at e1 t1 ⊢
      have eB := t1 _ _ eA
      refine ⟨_, rfl, _, rfl, a, _, .ref (exN K 3), _, rfl, eB, fun u r => r, kt 3 (by decide), _, rfl, a, _, .ref (exN K 4), _, rfl, eB, fun u r => r, kt 4 (by decide), _, rfl, a, _, .ref (exN K 5), _, rfl, eB, fun u r => r, kt 5 (by decide), by show 3 ≤ sizeLine; decide, fun Z2 h2 => ?_⟩
      have e2 : (upd HB Z2 (.lst [V.bl (decide (e = 3)), V.bl (decide (e = 4)), V.bl (decide (e = 5))])) Z2 = some (.lst [V.bl (decide (e = 3)), V.bl (decide (e = 4)), V.bl (decide (e = 5))]) := upd_same
      have t2 : Same HB (upd HB Z2 (.lst [V.bl (decide (e = 3)), V.bl (decide (e = 4)), V.bl (decide (e = 5))])) := same_upd h2
      generalize upd HB Z2 (.lst [V.bl (decide (e = 3)), V.bl (decide (e = 4)), V.bl (decide (e = 5))]) = HC at e2 t2 ⊢
      refine ⟨Z1, Z2, _, _, rfl, rfl, t2 _ _ e1, e2, by show 6 ≤ sizeLine; decide, fun Z3 h3 => ?_⟩
      have e3 : (upd HC Z3 (.lst ([V.bl (decide (e = 0)), V.bl (decide (e = 1)), V.bl (decide (e = 2))] ++ [V.bl (decide (e = 3)), V.bl (decide (e = 4)), V.bl (decide (e = 5))]))) Z3 = some (.lst [V.bl (decide (e = 0)), V.bl (decide (e = 1)), V.bl (decide (e = 2)), V.bl (decide (e = 3)), V.bl (decide (e = 4)), V.bl (decide (e = 5))]) := upd_same
      have t3 : Same HC (upd HC Z3 (.lst ([V.bl (decide (e = 0)), V.bl (decide (e = 1)), V.bl (decide (e = 2))] ++ [V.bl (decide (e = 3)), V.bl (decide (e = 4)), V.bl (decide (e = 5))]))) := same_upd h3
      generalize upd HC Z3 (.lst ([V.bl (decide (e = 0)), V.bl (decide (e = 1)), V.bl (decide (e = 2))] ++ [V.bl (decide (e = 3)), V.bl (decide (e = 4)), V.bl (decide (e = 5))])) = HD at e3 t3 ⊢
      have eD := t3 _ _ (t2 _ _ eB)
      have sHC : Same H HC := (sA.trans t1).trans t2
      have hHZ : HC Z3 = none := h3
      have nAZ : a ≠ Z3 := fun z => by rw [z] at eD; rw [eD] at e3; cases e3
      refine ⟨_, rfl, tyL e3, _, rfl, a, _, .ref (exN K 6), _, rfl, eD, fun u r => r, kt 6 (by decide), Z3, _, _, rfl, rfl, e3, by show 6 < sizeLine; decide, ?_⟩
      have e4 : (upd HD Z3 (.lst ([V.bl (decide (e = 0)), V.bl (decide (e = 1)), V.bl (decide (e = 2)), V.bl (decide (e = 3)), V.bl (decide (e = 4)), V.bl (decide (e = 5))] ++ [V.bl (decide (e = 6))]))) Z3 = some (.lst [V.bl (decide (e = 0)), V.bl (decide (e = 1)), V.bl (decide (e = 2)), V.bl (decide (e = 3)), V.bl (decide (e = 4)), V.bl (decide (e = 5)), V.bl (decide (e = 6))]) := upd_same
      have eA4 : (upd HD Z3 (.lst ([V.bl (decide (e = 0)), V.bl (decide (e = 1)), V.bl (decide (e = 2)), V.bl (decide (e = 3)), V.bl (decide (e = 4)), V.bl (decide (e = 5))] ++ [V.bl (decide (e = 6))]))) a = some (ExE (.ref (exN K e)) a) := (upd_ne nAZ).trans eD
      have s4 : Same H (upd HD Z3 (.lst ([V.bl (decide (e = 0)), V.bl (decide (e = 1)), V.bl (decide (e = 2)), V.bl (decide (e = 3)), V.bl (decide (e = 4)), V.bl (decide (e = 5))] ++ [V.bl (decide (e = 6))]))) := fun x o ex => by
        have ex2 := sHC x o ex
        rw [upd_ne (ne_of_none ex2 h3)]
        exact t3 _ _ ex2
      generalize upd HD Z3 (.lst ([V.bl (decide (e = 0)), V.bl (decide (e = 1)), V.bl (decide (e = 2)), V.bl (decide (e = 3)), V.bl (decide (e = 4)), V.bl (decide (e = 5))] ++ [V.bl (decide (e = 6))])) = HE at e4 eA4 s4 ⊢
      refine ⟨_, rfl, by show 4 ≤ sizeLine; decide, fun T hT => ?_⟩
      have sT : Same HE (upd HE T (.tup [V.ref (cA K "NoPlace"), V.ref (cA K "NoTree"), V.ref (cA K "NoWeights"), V.ref (cA K "TooMany")])) := same_upd hT
      refine ⟨a, T, _, _, false, rfl, sT _ _ eA4, upd_same, .cons (.own _) (.cons (.own _) (.cons (.own _) (.cons (.own _) .nil))), ET.any e he0, _, rfl, ?_⟩
      refine ⟨_, rfl, a, _, .type "ValueError", true, rfl, sT _ _ eA4, fun u r => r, ET.val e he0, _, rfl, ?_⟩
      have e5 := sT _ _ e4
      have s5 := s4.trans sT
      generalize upd HE T (.tup [V.ref (cA K "NoPlace"), V.ref (cA K "NoTree"), V.ref (cA K "NoWeights"), V.ref (cA K "TooMany")]) = HF at e5 s5 ⊢
      have q5 : ∀ {H' : Hp}, Same HF H' → Q (.str (Tx (9 :: errW e))) H' := fun s' => q _ (s5.trans s')
      clear q es hse sT s4 eA4 eD e3 e2 e1 eB eA hC kt e4
      refine iteF ?_
      match e, he0 with
      | 0, _ =>
        refine ⟨_, rfl, tyL e5, Z3, _, _, rfl, rfl, .inl (.inl e5), rfl, rfl, rfl, _, rfl, ?_⟩
        refine iteF ?_
        refine ⟨by show 7 ≤ sizeLine; decide, fun Y hY => ?_⟩
        have eY := upd_same (H := HF) (a := Y) (o := HO.lst [V.str (Str.ofString "NoRow"), V.str (Str.ofString "NoName"), V.str (Str.ofString "NoKinds"), V.str (Str.ofString "NoLine"), V.str (Str.ofString "NoNumber"), V.str (Str.ofString "NotRight"), V.str (Str.ofString "NoFilling")])
        refine ⟨_, rfl, tyL (same_upd hY _ _ e5), Z3, _, _, 0, _, rfl, rfl, .inl (.inl (same_upd hY _ _ e5)), rfl, rfl, rfl, rfl, fun m z' hm hz' => ?_, Y, _, _, _, rfl, rfl, .inl (.inl eY), atI_nat (j := 0) rfl, _, _, rfl, rfl, by decide, q5 (same_upd hY)⟩
        exact absurd hm (Nat.not_lt_zero _)
      | 1, _ =>
        refine ⟨_, rfl, tyL e5, Z3, _, _, rfl, rfl, .inl (.inl e5), rfl, rfl, rfl, _, rfl, ?_⟩
        refine iteF ?_
        refine ⟨by show 7 ≤ sizeLine; decide, fun Y hY => ?_⟩
        have eY := upd_same (H := HF) (a := Y) (o := HO.lst [V.str (Str.ofString "NoRow"), V.str (Str.ofString "NoName"), V.str (Str.ofString "NoKinds"), V.str (Str.ofString "NoLine"), V.str (Str.ofString "NoNumber"), V.str (Str.ofString "NotRight"), V.str (Str.ofString "NoFilling")])
        refine ⟨_, rfl, tyL (same_upd hY _ _ e5), Z3, _, _, 1, _, rfl, rfl, .inl (.inl (same_upd hY _ _ e5)), rfl, rfl, rfl, rfl, fun m z' hm hz' => ?_, Y, _, _, _, rfl, rfl, .inl (.inl eY), atI_nat (j := 1) rfl, _, _, rfl, rfl, by decide, q5 (same_upd hY)⟩
        match m, hm with
        | 0, _ => cases hz'; rfl
      | 2, _ =>
        refine ⟨_, rfl, tyL e5, Z3, _, _, rfl, rfl, .inl (.inl e5), rfl, rfl, rfl, _, rfl, ?_⟩
        refine iteF ?_
        refine ⟨by show 7 ≤ sizeLine; decide, fun Y hY => ?_⟩
        have eY := upd_same (H := HF) (a := Y) (o := HO.lst [V.str (Str.ofString "NoRow"), V.str (Str.ofString "NoName"), V.str (Str.ofString "NoKinds"), V.str (Str.ofString "NoLine"), V.str (Str.ofString "NoNumber"), V.str (Str.ofString "NotRight"), V.str (Str.ofString "NoFilling")])
        refine ⟨_, rfl, tyL (same_upd hY _ _ e5), Z3, _, _, 2, _, rfl, rfl, .inl (.inl (same_upd hY _ _ e5)), rfl, rfl, rfl, rfl, fun m z' hm hz' => ?_, Y, _, _, _, rfl, rfl, .inl (.inl eY), atI_nat (j := 2) rfl, _, _, rfl, rfl, by decide, q5 (same_upd hY)⟩
        match m, hm with
        | 0, _ => cases hz'; rfl
        | 1, _ => cases hz'; rfl
      | 3, _ =>
        refine ⟨_, rfl, tyL e5, Z3, _, _, rfl, rfl, .inl (.inl e5), rfl, rfl, rfl, _, rfl, ?_⟩
        refine iteF ?_
        refine ⟨by show 7 ≤ sizeLine; decide, fun Y hY => ?_⟩
        have eY := upd_same (H := HF) (a := Y) (o := HO.lst [V.str (Str.ofString "NoRow"), V.str (Str.ofString "NoName"), V.str (Str.ofString "NoKinds"), V.str (Str.ofString "NoLine"), V.str (Str.ofString "NoNumber"), V.str (Str.ofString "NotRight"), V.str (Str.ofString "NoFilling")])
        refine ⟨_, rfl, tyL (same_upd hY _ _ e5), Z3, _, _, 3, _, rfl, rfl, .inl (.inl (same_upd hY _ _ e5)), rfl, rfl, rfl, rfl, fun m z' hm hz' => ?_, Y, _, _, _, rfl, rfl, .inl (.inl eY), atI_nat (j := 3) rfl, _, _, rfl, rfl, by decide, q5 (same_upd hY)⟩
        match m, hm with
        | 0, _ => cases hz'; rfl
        | 1, _ => cases hz'; rfl
        | 2, _ => cases hz'; rfl
      | 4, _ =>
        refine ⟨_, rfl, tyL e5, Z3, _, _, rfl, rfl, .inl (.inl e5), rfl, rfl, rfl, _, rfl, ?_⟩
        refine iteF ?_
        refine ⟨by show 7 ≤ sizeLine; decide, fun Y hY => ?_⟩
        have eY := upd_same (H := HF) (a := Y) (o := HO.lst [V.str (Str.ofString "NoRow"), V.str (Str.ofString "NoName"), V.str (Str.ofString "NoKinds"), V.str (Str.ofString "NoLine"), V.str (Str.ofString "NoNumber"), V.str (Str.ofString "NotRight"), V.str (Str.ofString "NoFilling")])
        refine ⟨_, rfl, tyL (same_upd hY _ _ e5), Z3, _, _, 4, _, rfl, rfl, .inl (.inl (same_upd hY _ _ e5)), rfl, rfl, rfl, rfl, fun m z' hm hz' => ?_, Y, _, _, _, rfl, rfl, .inl (.inl eY), atI_nat (j := 4) rfl, _, _, rfl, rfl, by decide, q5 (same_upd hY)⟩
        match m, hm with
        | 0, _ => cases hz'; rfl
        | 1, _ => cases hz'; rfl
        | 2, _ => cases hz'; rfl
        | 3, _ => cases hz'; rfl
      | 5, _ =>
        refine ⟨_, rfl, tyL e5, Z3, _, _, rfl, rfl, .inl (.inl e5), rfl, rfl, rfl, _, rfl, ?_⟩
        refine iteF ?_
        refine ⟨by show 7 ≤ sizeLine; decide, fun Y hY => ?_⟩
        have eY := upd_same (H := HF) (a := Y) (o := HO.lst [V.str (Str.ofString "NoRow"), V.str (Str.ofString "NoName"), V.str (Str.ofString "NoKinds"), V.str (Str.ofString "NoLine"), V.str (Str.ofString "NoNumber"), V.str (Str.ofString "NotRight"), V.str (Str.ofString "NoFilling")])
        refine ⟨_, rfl, tyL (same_upd hY _ _ e5), Z3, _, _, 5, _, rfl, rfl, .inl (.inl (same_upd hY _ _ e5)), rfl, rfl, rfl, rfl, fun m z' hm hz' => ?_, Y, _, _, _, rfl, rfl, .inl (.inl eY), atI_nat (j := 5) rfl, _, _, rfl, rfl, by decide, q5 (same_upd hY)⟩
        match m, hm with
        | 0, _ => cases hz'; rfl
        | 1, _ => cases hz'; rfl
        | 2, _ => cases hz'; rfl
        | 3, _ => cases hz'; rfl
        | 4, _ => cases hz'; rfl
      | 6, _ =>
        refine ⟨_, rfl, tyL e5, Z3, _, _, rfl, rfl, .inl (.inl e5), rfl, rfl, rfl, _, rfl, ?_⟩
        refine iteF ?_
        refine ⟨by show 7 ≤ sizeLine; decide, fun Y hY => ?_⟩
        have eY := upd_same (H := HF) (a := Y) (o := HO.lst [V.str (Str.ofString "NoRow"), V.str (Str.ofString "NoName"), V.str (Str.ofString "NoKinds"), V.str (Str.ofString "NoLine"), V.str (Str.ofString "NoNumber"), V.str (Str.ofString "NotRight"), V.str (Str.ofString "NoFilling")])
        refine ⟨_, rfl, tyL (same_upd hY _ _ e5), Z3, _, _, 6, _, rfl, rfl, .inl (.inl (same_upd hY _ _ e5)), rfl, rfl, rfl, rfl, fun m z' hm hz' => ?_, Y, _, _, _, rfl, rfl, .inl (.inl eY), atI_nat (j := 6) rfl, _, _, rfl, rfl, by decide, q5 (same_upd hY)⟩
        match m, hm with
        | 0, _ => cases hz'; rfl
        | 1, _ => cases hz'; rfl
        | 2, _ => cases hz'; rfl
        | 3, _ => cases hz'; rfl
        | 4, _ => cases hz'; rfl
        | 5, _ => cases hz'; rfl
end
end BR
set_option Elab.async false
set_option linter.all false
set_option maxRecDepth 100000
set_option maxHeartbeats 4000000
/-! M8: a number's figures are a number's word -/
namespace BR
open PySem PySem.Spec PyProof.Rows L2
theorem dig_fig {n : Nat} (h : n < 10) : (Nat.digitChar n).toNat ∈ lFIG ∧ (n ≠ 0 → (Nat.digitChar n).toNat ≠ 48) := by
  have h1 : ∀ n, n < 10 → (Nat.digitChar n).toNat ∈ lFIG ∧ (n ≠ 0 → (Nat.digitChar n).toNat ≠ 48) := by decide
  exact h1 n h
theorem numT_lt {n : Nat} (h : n < 10) : numT n = [(Nat.digitChar n).toNat] := by
  rw [numT_eq, Nat.toDigits_of_lt_base h]
  rfl
theorem numT_ge {n : Nat} (h : 10 ≤ n) : numT n = numT (n / 10) ++ [(Nat.digitChar (n % 10)).toNat] := by
  rw [numT_eq, numT_eq, Nat.toDigits_of_base_le (by decide) h, List.map_append]
  rfl
theorem figs (n : Nat) : (∀ c ∈ numT n, c ∈ lFIG) ∧ 1 ≤ (numT n).length ∧ (n ≠ 0 → (numT n).getD 0 0 ≠ 48) := by
  induction n using Nat.strongRecOn with
  | _ n ih =>
    by_cases h : n < 10
    · rw [numT_lt h]
      obtain ⟨d1, d2⟩ := dig_fig h
      exact ⟨fun c hc => by rw [List.mem_singleton.mp hc]; exact d1, Nat.le_refl _, d2⟩
    · have h10 : 10 ≤ n := Nat.le_of_not_lt h
      obtain ⟨i1, i2, i3⟩ := ih (n / 10) (Nat.div_lt_self (by omega) (by decide))
      rw [numT_ge h10]
      obtain ⟨d1, _⟩ := dig_fig (Nat.mod_lt n (show 10 > 0 by decide))
      refine ⟨fun c hc => ?_, by rw [List.length_append]; omega, fun _ => ?_⟩
      · rcases List.mem_append.mp hc with z | z
        · exact i1 c z
        · rw [List.mem_singleton.mp z]
          exact d1
      · have i4 := i3 (by omega)
        rw [List.getD_eq_getElem?_getD] at i4 ⊢
        rw [List.getElem?_append_left (by omega)]
        exact i4
theorem numOk_num {n : Nat} (h : n < 1000000000) : numOk (numT n) = true := by
  obtain ⟨f1, f2, f3⟩ := figs n
  have hl := numT_len (n := n) (k := 9) (by decide) h
  unfold numOk
  refine Bool.and_eq_true_iff.mpr ⟨Bool.and_eq_true_iff.mpr ⟨Bool.and_eq_true_iff.mpr ⟨decide_eq_true f2, decide_eq_true hl⟩, List.all_eq_true.mpr fun c hc => decide_eq_true (f1 c hc)⟩, ?_⟩
  by_cases z : n = 0
  · rw [z]
    decide +kernel
  · rw [decide_eq_false (f3 z)]
    cases decide ((numT n).length = 1) <;> rfl
end BR
set_option Elab.async false
set_option linter.all false
set_option maxRecDepth 100000
set_option maxHeartbeats 4000000
/-! L10: the law's helpers: question -/
namespace BR
open PySem PySem.Spec PyProof.Rows L2
structure QOk (hd more : List Nat) : Prop where
  head : hd ∈ lHEADS
  num : hd = Wt "nth" → numOk more = true
  as : hd = Wt "number" → As more ∧ 32 ∉ more ∧ more.length ≤ 1000
theorem cs_lt {k c : Nat} (h : c ∈ kSet k ++ [63]) : c < 128 ∧ c ≠ 32 := by
  rcases List.mem_append.mp h with z | z
  · have h1 : ∀ c ∈ lBR, c < 128 ∧ c ≠ 32 := by decide
    exact h1 c (List.mem_of_mem_take z)
  · rw [List.mem_singleton.mp z]
    decide
theorem KQ.plain {k : Nat} {l : List Nat} (h : KQ k l) : As l ∧ 32 ∉ l := ⟨fun c hc => (cs_lt (h c hc)).1, fun z => (cs_lt (h 32 z)).2 rfl⟩
theorem KQ.of_row {k : Nat} {l : List Nat} (h : rowBy k l = true) : KQ k l := fun c hc => of_decide_eq_true (List.all_eq_true.mp (Bool.and_eq_true_iff.mp h).2 c hc)
section
variable {P : Program} {w : World} {K : PySem.W.Frag} {mg : Str → Option Value} {base : Heap} {f : Addr} {fd : FuncData}
def spQuestion : Sp := fun vs H Q _ => ∃ (p : Addr) (k : Nat) (l : List Nat), vs = [.ref p, nI k, .str (Tx l)] ∧ 1 ≤ k ∧ k ≤ 4 ∧ rowBy k l = true ∧ PoolAt H p ∧ ∀ (hd more : List Nat) H' D, QOk hd more → SameX p H H' → PoolAt H' p → H D = none → H' D = some (.tup [.str (Tx hd), .str (Tx more)]) → Q (.ref D) H'
theorem sc__law_question : FnScope ["pool", "k", "row", "head", "many", "some", "other", "at", "bent"] ["pool", "k", "row"] (defScope s__law_question) := ⟨rfl, rfl, rfl, by decide +kernel, rfl, by decide +kernel, by decide +kernel⟩
theorem ok__law_question (T : Txt K mg) (F : FunP K "_law_question" "_law_question" s__law_question f fd) (g__law_draw : Dk P w K mg base CX0 1 "_law_draw" ["pool", "many"] spDraw) (g__law_signs : Dk P w K mg base CX0 1 "_law_signs" ["k"] spSigns)
    (g_how_many : Dk P w K mg base CX0 4 "how_many" ["k", "row"] spHowMany) (g_nth_filling : Dk P w K mg base (L2.CX P w) 6 "nth_filling" ["k", "row", "i"] (spNth (cA K "NoNumber"))) : FnOk P w K mg base (L2.CX P w) 7 f fd ["pool", "k", "row"] spQuestion := by
  refine F.ok sc__law_question (fun vs H Q E h => ?_) (fun cdv A outer s H vs Q E hr h => ?_)
  · obtain ⟨p, k, l, rfl, _⟩ := h
    rfl
  · obtain ⟨p, k, l, rfl, k1, k4, hb, hP, q⟩ := h
    refine ⟨_, (pss_cons (ps_set (i := 3) sc__law_question.nd rfl (.inl rfl) (pe_ix (show IxR _ (rIxL K) from ix_list) (pe_lst (pa_cons pe_str (pa_cons pe_str (pa_cons pe_str (pa_cons pe_str (pa_cons pe_str (pa_cons pe_str (pa_cons pe_str (pa_cons pe_str (pa_cons pe_str pa_nil)))))))))) (g__law_draw.call hr pass0 (pa_cons (pv 0) (pa_cons pe_int pa_nil))) (fun _ _ => rfl)))
       (pss_cons (ps_set (i := 4) sc__law_question.nd rfl (.inl rfl) (g_how_many.call hr pass0 (pa_cons (pv 1) (pa_cons (pv 2) pa_nil))))
       (pss_cons (ps_if (pt_cmpR op_eq (pv 3) pe_str (nomark _))
        (pss_cons (ps_set (i := 5) sc__law_question.nd rfl (.inl rfl) (pe_lst (pa_cons pe_int (pa_cons (pe_op op_sub (pv 4) pe_int) (pa_cons (pv 4) (pa_cons (g__law_draw.call hr pass0 (pa_cons (pv 0) (pa_cons (pe_op op_add (pv 4) pe_int) pa_nil))) (pa_cons pe_int (pa_cons (g__law_draw.call hr pass0 (pa_cons (pv 0) (pa_cons (pe_op op_pow pe_int pe_int) pa_nil))) pa_nil))))))))
       (pss_one (ps_ret (pe_tup (pa_cons (pv 3) (pa_cons (pe_callTy call_str_int (by rfl) T.b_str (by decide +kernel) (pa_cons (pe_callB (call_min2 rfl) (by rfl) T.b_min (by decide +kernel) (pa_cons pe_int (pa_cons (pe_callB (call_max2 rfl) (by rfl) T.b_max (by decide +kernel) (pa_cons pe_int (pa_cons (pe_ix (show IxR _ (rIxL K) from ix_list) (pv 5) (g__law_draw.call hr pass0 (pa_cons (pv 0) (pa_cons pe_int pa_nil))) (fun _ _ => rfl)) pa_nil))) pa_nil))) pa_nil)) pa_nil))))))
        pss_nil)
       (pss_cons (ps_if (pt_cmpR op_ne (pv 3) pe_str (nomark _))
        (pss_one (ps_ret (pe_tup (pa_cons (pv 3) (pa_cons pe_str pa_nil)))))
        pss_nil)
       (pss_cons (ps_if (PW.pt (pw_or (pt_cmpR op_eq (pv 4) pe_int (nomark _)) (pw_or1 (pt_cmpR op_eq (g__law_draw.call hr pass0 (pa_cons (pv 0) (pa_cons pe_int pa_nil))) pe_int (nomark _)))))
        (pss_one (ps_ret (pe_tup (pa_cons (pv 3) (pa_cons (pe_ix (show IxR _ (rIxL K) from ix_list) (pe_lst (pa_cons (pv 2) (pa_cons pe_str (pa_cons (pe_op op_add_str (pv 2) pe_str) (pa_cons (pe_slice sl_str (pv 2) po_none (po_some (pe_un un_neg pe_int))) (pa_cons pe_str (pa_cons pe_str pa_nil))))))) (g__law_draw.call hr pass0 (pa_cons (pv 0) (pa_cons pe_int pa_nil))) (fun _ _ => rfl)) pa_nil)))))
        pss_nil)
       (pss_cons (ps_set (i := 6) sc__law_question.nd rfl (.inl rfl) (g_nth_filling.call hr (passes_call (takes_of rfl rfl rfl rfl) (fun _ _ _ _ h => h)) (pa_cons (pv 1) (pa_cons (pv 2) (pa_cons (g__law_draw.call hr pass0 (pa_cons (pv 0) (pa_cons (pv 4) pa_nil))) pa_nil)))))
       (pss_cons (ps_set (i := 7) sc__law_question.nd rfl (.inl rfl) (g__law_draw.call hr pass0 (pa_cons (pv 0) (pa_cons (pe_op op_add (pe_callB call_len_str (by rfl) T.b_len (by decide +kernel) (pa_cons (pv 6) pa_nil)) pe_int) pa_nil))))
       (pss_cons (ps_set (i := 8) sc__law_question.nd rfl (.inl rfl) (pe_op op_add_str (pe_op op_add_str (pe_slice sl_str (pv 6) po_none (po_some (pv 7))) (pe_ix ix_str (g__law_signs.call hr pass0 (pa_cons (pv 1) pa_nil)) (g__law_draw.call hr pass0 (pa_cons (pv 0) (pa_cons (pe_op op_mul pe_int (pv 1)) pa_nil))) (fun _ _ => rfl))) (pe_slice sl_str (pv 6) (po_some (pe_op op_add (pv 7) pe_int)) po_none)))
       (pss_one (ps_ret (pe_tup (pa_cons (pv 3) (pa_cons (pe_ix (show IxR _ (rIxL K) from ix_list) (pe_lst (pa_cons (pv 6) (pa_cons (pv 6) (pa_cons (pv 8) pa_nil)))) (g__law_draw.call hr pass0 (pa_cons (pv 0) (pa_cons pe_int pa_nil))) (fun _ _ => rfl)) pa_nil))))))))))))) , ?_⟩
    have hl := rowBy_len hb
    refine ⟨by show 9 ≤ sizeLine; decide, fun Z hZ => ?_⟩
    have eZ : (upd H Z (.lst [V.str (Str.ofString "right"), V.str (Str.ofString "may"), V.str (Str.ofString "many"), V.str (Str.ofString "nth"), V.str (Str.ofString "number"), V.str (Str.ofString "sure"), V.str (Str.ofString "fewest"), V.str (Str.ofString "more"), V.str (Str.ofString "show")])) Z = some (.lst (wV lHEADS)) := upd_same
    have sZ : Same H (upd H Z (.lst [V.str (Str.ofString "right"), V.str (Str.ofString "may"), V.str (Str.ofString "many"), V.str (Str.ofString "nth"), V.str (Str.ofString "number"), V.str (Str.ofString "sure"), V.str (Str.ofString "fewest"), V.str (Str.ofString "more"), V.str (Str.ofString "show")])) := same_upd hZ
    have npZ : Z ≠ p := hP.ne hZ
    generalize upd H Z (.lst [V.str (Str.ofString "right"), V.str (Str.ofString "may"), V.str (Str.ofString "many"), V.str (Str.ofString "nth"), V.str (Str.ofString "number"), V.str (Str.ofString "sure"), V.str (Str.ofString "fewest"), V.str (Str.ofString "more"), V.str (Str.ofString "show")]) = H0 at eZ sZ ⊢
    refine ⟨_, rfl, p, 9, rfl, by decide, big_lt (by decide), hP.same sZ, fun r H1 hr s1 hP1 => ?_⟩
    have eZ1 := s1 _ _ npZ eZ
    have l9 : lHEADS.length = 9 := rfl
    refine ⟨Z, _, _, _, rfl, rfl, .inl (.inl eZ1), atI_nat (j := r) (wV_at (by omega)), ?_⟩
    have hh : lHEADS.getD r [] ∈ lHEADS := getD_mem (by omega)
    generalize lHEADS.getD r [] = hd at hh ⊢
    refine ⟨_, rfl, _, rfl, k, l, rfl, k1, k4, (Sg.of hb).as, hb, fun H2 s2 => ?_⟩
    have hP2 := hP1.same s2
    have s02 : SameX p H H2 := ((sameX sZ).trans s1).trans (sameX s2)
    have hm := wn_lt k4 hl
    obtain ⟨many, em⟩ : ∃ m, m = Wn k l := ⟨_, rfl⟩
    rw [← em] at hm ⊢
    refine ⟨_, rfl, rfl, _, rfl, ?_⟩
    rw [tx_eqW]
    refine iteB (fun c1 => ?_) (fun c1 => ?_)
    · have e1 := of_decide_eq_true c1
      have bm : many + 1 < 2 ^ 1901 := by
        have : (2 : Nat) ^ 1901 = 2 ^ 1900 * 2 := Nat.pow_succ ..
        have h1 : 1 ≤ (2 : Nat) ^ 1900 := Nat.one_le_two_pow
        omega
      refine ⟨_, rfl, _, _, rfl, rfl, _, rfl, _, rfl, _, rfl, _, _, rfl, rfl, p, many + 1, congrArg (fun z => [V.ref p, V.int z]) (by omega), by omega, bm, hP2, fun r1 H3 hr1 s3 hP3 => ?_⟩
      refine ⟨_, rfl, _, _, rfl, rfl, ⟨by decide, by decide, by decide⟩, p, 1000000000, rfl, by decide, big_lt (by decide), hP3, fun r2 H4 hr2 s4 hP4 => ?_⟩
      refine ⟨by show 6 ≤ sizeLine; decide, fun Y hY => ?_⟩
      have sY := same_upd (o := .lst [V.int 0, V.int ((many : Int) - 1), V.int (many : Int), nI r1, V.int 999999999, nI r2]) hY
      have eY : (upd H4 Y (.lst [V.int 0, V.int ((many : Int) - 1), V.int (many : Int), nI r1, V.int 999999999, nI r2])) Y = some (.lst [V.int 0, V.int ((many : Int) - 1), V.int (many : Int), nI r1, V.int 999999999, nI r2]) := upd_same
      have npY : Y ≠ p := hP4.ne hY
      refine ⟨_, rfl, _, rfl, _, rfl, p, 6, rfl, by decide, big_lt (by decide), hP4.same sY, fun r6 H6 hr6 s6 hP6 => ?_⟩
      obtain ⟨z, hz⟩ : ∃ z : Int, [V.int 0, V.int ((many : Int) - 1), V.int (many : Int), nI r1, V.int 999999999, nI r2][r6]? = some (V.int z) := by
        match r6, hr6 with
        | 0, _ => exact ⟨_, rfl⟩
        | 1, _ => exact ⟨_, rfl⟩
        | 2, _ => exact ⟨_, rfl⟩
        | 3, _ => exact ⟨_, rfl⟩
        | 4, _ => exact ⟨_, rfl⟩
        | 5, _ => exact ⟨_, rfl⟩
      obtain ⟨v, v1, v2⟩ : ∃ v : Nat, (if (if z > 0 then z else 0) < (999999999 : Int) then (if z > 0 then z else 0) else 999999999) = (v : Int) ∧ v < 1000000000 := by
        refine ⟨(if (if z > 0 then z else 0) < (999999999 : Int) then (if z > 0 then z else 0) else 999999999).toNat, ?_, ?_⟩
        · repeat' split
          all_goals omega
        · repeat' split
          all_goals omega
      refine ⟨Y, _, _, _, rfl, rfl, .inl (.inl (s6 _ _ npY eY)), atI_nat (j := r6) hz, _, _, rfl, _, _, rfl, _, rfl, ?_, ?_⟩
      · rw [v1]
        exact num_ok (Nat.lt_of_lt_of_le (show v < 2 ^ 40 by omega) (Nat.pow_le_pow_right (by decide) (by decide)))
      rw [v1, tx_num]
      refine ⟨by show 2 ≤ sizeLine; decide, fun D hD => ?_⟩
      exact q hd (numT v) _ D ⟨hh, fun _ => numOk_num v2, fun y => by rw [e1] at y; exact absurd y (by decide)⟩ (((((s02.trans s3).trans s4).trans (sameX sY)).trans s6).trans (sameX (same_upd hD))) (hP6.same (same_upd hD)) (((((s02.trans s3).trans s4).trans (sameX sY)).trans s6).free (hP6.ne hD) hD) upd_same
    · refine ⟨_, rfl, rfl, _, rfl, ?_⟩
      have en : (!decide (V.str (Tx hd) = V.str (Str.ofString "number"))) = !decide (hd = Wt "number") := congrArg (! ·) tx_eqW
      rw [en]
      have n1 := of_decide_eq_false c1
      cases c2 : decide (hd = Wt "number") with
      | false =>
        refine iteT ⟨_, rfl, by show 2 ≤ sizeLine; decide, fun D hD => ?_⟩
        exact q hd [] _ D ⟨hh, fun y => absurd y n1, fun y => absurd y (of_decide_eq_false c2)⟩ (s02.trans (sameX (same_upd hD))) (hP2.same (same_upd hD)) (s02.free (hP2.ne hD) hD) upd_same
      | true =>
        have e2 := of_decide_eq_true c2
        refine iteF ?_
        refine ⟨_, rfl, rfl, _, rfl, ?_⟩
        refine iteB (fun c3 => ?_) (fun c3 => ?_)
        · refine ⟨_, rfl, _, rfl, _, rfl, _, _, rfl, rfl, ?_, _, rfl, _, rfl, _, rfl, _, rfl, by rw [Tx_len]; exact sl_le (by omega), by show 6 ≤ sizeLine; decide, fun Y hY => ?_⟩
          · rw [Tx_len]
            exact sl_le (by show _ + 2 ≤ _; omega)
          have eW : [V.str (Tx l), V.str (Str.ofString ""), V.str (Tx l ++ Str.ofString "()"), V.str (cutS (Tx l) none (some (-1))), V.str (Str.ofString "(x)"), V.str (Str.ofString "?")] = wV [l, [], l ++ [40, 41], l.dropLast, [40, 120, 41], [63]] := by
            have e40 : Str.ofString "()" = Tx [40, 41] := rfl
            rw [e40, Tx_app, cutS_init]
            rfl
          have eY : (upd H2 Y (.lst [V.str (Tx l), V.str (Str.ofString ""), V.str (Tx l ++ Str.ofString "()"), V.str (cutS (Tx l) none (some (-1))), V.str (Str.ofString "(x)"), V.str (Str.ofString "?")])) Y = some (.lst (wV [l, [], l ++ [40, 41], l.dropLast, [40, 120, 41], [63]])) := by
            rw [← eW]
            exact upd_same
          have sY : Same H2 (upd H2 Y (.lst [V.str (Tx l), V.str (Str.ofString ""), V.str (Tx l ++ Str.ofString "()"), V.str (cutS (Tx l) none (some (-1))), V.str (Str.ofString "(x)"), V.str (Str.ofString "?")])) := same_upd hY
          have npY : Y ≠ p := PoolAt.ne hP2 hY
          have good : ∀ x ∈ [l, [], l ++ [40, 41], l.dropLast, [40, 120, 41], [63]], As x ∧ 32 ∉ x ∧ x.length ≤ 1000 := fun x hx => by
            obtain ⟨g1, g2⟩ := (KQ.of_row hb).plain
            have gl : ∀ x : List Nat, (∀ c ∈ x, c < 128 ∧ c ≠ 32) → x.length ≤ 1000 → As x ∧ 32 ∉ x ∧ x.length ≤ 1000 := fun x h1 h2 => ⟨fun c hc => (h1 c hc).1, fun z => (h1 32 z).2 rfl, h2⟩
            have ll : ∀ c ∈ l, c < 128 ∧ c ≠ 32 := fun c hc => ⟨g1 c hc, fun z => g2 (z ▸ hc)⟩
            simp only [List.mem_cons, List.mem_nil_iff, or_false] at hx
            rcases hx with rfl | rfl | rfl | rfl | rfl | rfl
            · exact gl _ ll (by omega)
            · exact gl _ (by decide) (by decide)
            · refine gl _ (fun c hc => (List.mem_append.mp hc).elim (ll c) ?_) (by rw [List.length_append]; show _ + 2 ≤ _; omega)
              have h2 : ∀ c ∈ [40, 41], c < 128 ∧ c ≠ 32 := by decide
              exact h2 c
            · exact gl _ (fun c hc => ll c ((List.dropLast_sublist l).subset hc)) (by rw [List.length_dropLast]; omega)
            · exact gl _ (by decide) (by decide)
            · exact gl _ (by decide) (by decide)
          refine ⟨_, rfl, p, 6, rfl, by decide, big_lt (by decide), PoolAt.same hP2 sY, fun r6 H6 hr6 s6 hP6 => ?_⟩
          refine ⟨Y, _, _, _, rfl, rfl, .inl (.inl (s6 _ _ npY eY)), atI_nat (j := r6) (wV_at (by show r6 < 6; omega)), by show 2 ≤ sizeLine; decide, fun D hD => ?_⟩
          have gm := good _ (getD_mem (ws := [l, [], l ++ [40, 41], l.dropLast, [40, 120, 41], [63]]) (i := r6) (by show r6 < 6; omega))
          exact q hd _ _ D ⟨hh, fun y => by rw [e2] at y; exact absurd y (by decide), fun _ => gm⟩ (((SameX.trans s02 (sameX sY)).trans s6).trans (sameX (same_upd hD))) (hP6.same (same_upd hD)) (((SameX.trans s02 (sameX sY)).trans s6).free (hP6.ne hD) hD) upd_same
        · have m0 : 0 < many := Nat.pos_of_ne_zero fun z => of_decide_eq_false c3 (by rw [z]; rfl)
          refine ⟨_, rfl, p, 4, rfl, by decide, big_lt (by decide), hP2, fun r4 H3 hr4 s3 hP3 => ⟨rfl, _, rfl, ?_⟩⟩
          have s03 := s02.trans s3
          refine iteB (fun c4 => ?_) (fun c4 => ?_)
          · refine ⟨_, rfl, _, rfl, _, rfl, _, _, rfl, rfl, ?_, _, rfl, _, rfl, _, rfl, _, rfl, by rw [Tx_len]; exact sl_le (by omega), by show 6 ≤ sizeLine; decide, fun Y hY => ?_⟩
            · rw [Tx_len]
              exact sl_le (by show _ + 2 ≤ _; omega)
            have eW : [V.str (Tx l), V.str (Str.ofString ""), V.str (Tx l ++ Str.ofString "()"), V.str (cutS (Tx l) none (some (-1))), V.str (Str.ofString "(x)"), V.str (Str.ofString "?")] = wV [l, [], l ++ [40, 41], l.dropLast, [40, 120, 41], [63]] := by
              have e40 : Str.ofString "()" = Tx [40, 41] := rfl
              rw [e40, Tx_app, cutS_init]
              rfl
            have eY : (upd H3 Y (.lst [V.str (Tx l), V.str (Str.ofString ""), V.str (Tx l ++ Str.ofString "()"), V.str (cutS (Tx l) none (some (-1))), V.str (Str.ofString "(x)"), V.str (Str.ofString "?")])) Y = some (.lst (wV [l, [], l ++ [40, 41], l.dropLast, [40, 120, 41], [63]])) := by
              rw [← eW]
              exact upd_same
            have sY : Same H3 (upd H3 Y (.lst [V.str (Tx l), V.str (Str.ofString ""), V.str (Tx l ++ Str.ofString "()"), V.str (cutS (Tx l) none (some (-1))), V.str (Str.ofString "(x)"), V.str (Str.ofString "?")])) := same_upd hY
            have npY : Y ≠ p := PoolAt.ne hP3 hY
            have good : ∀ x ∈ [l, [], l ++ [40, 41], l.dropLast, [40, 120, 41], [63]], As x ∧ 32 ∉ x ∧ x.length ≤ 1000 := fun x hx => by
              obtain ⟨g1, g2⟩ := (KQ.of_row hb).plain
              have gl : ∀ x : List Nat, (∀ c ∈ x, c < 128 ∧ c ≠ 32) → x.length ≤ 1000 → As x ∧ 32 ∉ x ∧ x.length ≤ 1000 := fun x h1 h2 => ⟨fun c hc => (h1 c hc).1, fun z => (h1 32 z).2 rfl, h2⟩
              have ll : ∀ c ∈ l, c < 128 ∧ c ≠ 32 := fun c hc => ⟨g1 c hc, fun z => g2 (z ▸ hc)⟩
              simp only [List.mem_cons, List.mem_nil_iff, or_false] at hx
              rcases hx with rfl | rfl | rfl | rfl | rfl | rfl
              · exact gl _ ll (by omega)
              · exact gl _ (by decide) (by decide)
              · refine gl _ (fun c hc => (List.mem_append.mp hc).elim (ll c) ?_) (by rw [List.length_append]; show _ + 2 ≤ _; omega)
                have h2 : ∀ c ∈ [40, 41], c < 128 ∧ c ≠ 32 := by decide
                exact h2 c
              · exact gl _ (fun c hc => ll c ((List.dropLast_sublist l).subset hc)) (by rw [List.length_dropLast]; omega)
              · exact gl _ (by decide) (by decide)
              · exact gl _ (by decide) (by decide)
            refine ⟨_, rfl, p, 6, rfl, by decide, big_lt (by decide), PoolAt.same hP3 sY, fun r6 H6 hr6 s6 hP6 => ?_⟩
            refine ⟨Y, _, _, _, rfl, rfl, .inl (.inl (s6 _ _ npY eY)), atI_nat (j := r6) (wV_at (by show r6 < 6; omega)), by show 2 ≤ sizeLine; decide, fun D hD => ?_⟩
            have gm := good _ (getD_mem (ws := [l, [], l ++ [40, 41], l.dropLast, [40, 120, 41], [63]]) (i := r6) (by show r6 < 6; omega))
            exact q hd _ _ D ⟨hh, fun y => by rw [e2] at y; exact absurd y (by decide), fun _ => gm⟩ (((SameX.trans s03 (sameX sY)).trans s6).trans (sameX (same_upd hD))) (hP6.same (same_upd hD)) (((SameX.trans s03 (sameX sY)).trans s6).free (hP6.ne hD) hD) upd_same
          · refine ⟨_, rfl, _, rfl, _, rfl, _, rfl, p, many, rfl, m0, Nat.lt_of_lt_of_le hm (Nat.pow_le_pow_right (by decide) (by decide)), hP3, fun i H4 hi s4 hP4 => ?_⟩
            refine ⟨k, l, i, rfl, k1, k4, hb, fun hiW H5 s5 => ?_, fun hiW => absurd (em ▸ hi) hiW⟩
            have sW : Wd k l 0 l.length = Wn k l := by
              unfold Wd
              rw [sl_all]
            obtain ⟨-, -, -, ol, oc⟩ := nS_ok (k := k) (l := l) (i := i) k4 (by rw [sW]; exact hiW) l.length (Nat.le_refl _)
            change (nF k l i).length = l.length at ol
            change ∀ c ∈ nF k l i, c ∈ kSet k at oc
            generalize nF k l i = o at ol oc ⊢
            have hP5 := hP4.same s5
            have s05 := (s03.trans s4).trans (sameX s5)
            refine ⟨_, rfl, _, rfl, _, rfl, by rw [Tx_len]; exact sl_le (by omega), _, _, rfl, rfl, ?_⟩
            rw [Tx_len]
            refine ⟨p, o.length + 1, rfl, by omega, big_lt (by omega), hP5, fun at_ H7 hat s7 hP7 => ?_⟩
            refine ⟨_, rfl, _, rfl, _, rfl, _, rfl, by rw [Tx_len]; exact sl_le (by omega), ?_⟩
            refine ⟨_, rfl, k, rfl, k4, _, rfl, _, rfl, _, _, rfl, rfl, .inl ⟨by decide, by decide⟩, p, 2 * k, congrArg (fun z => [V.ref p, V.int z]) (by omega), by omega, big_lt (by omega), hP7, fun t4 H8 ht4 s8 hP8 => ?_⟩
            have kc : (kSgn k).getD t4 0 ∈ kSet k := (kSgn_mem k4 _).mp (List.mem_of_getElem? (getD_at (by rw [kSgn_len k4]; exact ht4)))
            refine ⟨_, _, _, rfl, rfl, by rw [Tx_len, kSgn_len k4]; exact sl_le (by omega), at_tx (j := t4) (getD_at (by rw [kSgn_len k4]; exact ht4)), _, _, rfl, rfl, ?_, ?_⟩
            · rw [cutS_to, Tx_len, List.length_take]
              exact sl_le (by show _ + 1 ≤ _; omega)
            have ea : ((at_ : Int) + 1) = ((at_ + 1 : Nat) : Int) := by omega
            have eS1 : cutS (Tx o) none (some (at_ : Int)) ++ Tx [(kSgn k).getD t4 0] = Tx (o.take at_ ++ [(kSgn k).getD t4 0]) := by rw [cutS_to, Tx_app]
            have eS2 : cutS (Tx o) (some ((at_ : Int) + 1)) none = Tx (o.drop (at_ + 1)) := by rw [ea, cutS_from]
            have lm : (o.take at_ ++ [(kSgn k).getD t4 0] ++ o.drop (at_ + 1)).length ≤ o.length + 1 := by
              rw [List.length_append, List.length_append, List.length_take, List.length_drop]
              show min at_ o.length + 1 + _ ≤ _
              omega
            refine ⟨_, rfl, _, rfl, _, _, rfl, rfl, _, rfl, _, rfl, by rw [Tx_len]; exact sl_le (by omega), _, _, rfl, rfl, ?_, ?_⟩
            · show (cutS (Tx o) none (some (at_ : Int)) ++ Tx [(kSgn k).getD t4 0]).length + (cutS (Tx o) (some ((at_ : Int) + 1)) none).length ≤ _
              rw [eS1, eS2, Tx_len, Tx_len, ← List.length_append]
              exact sl_le (by omega)
            have eS3 : cutS (Tx o) none (some (at_ : Int)) ++ Tx [(kSgn k).getD t4 0] ++ cutS (Tx o) (some ((at_ : Int) + 1)) none = Tx (o.take at_ ++ [(kSgn k).getD t4 0] ++ o.drop (at_ + 1)) := by rw [eS1, eS2, Tx_app]
            refine ⟨_, rfl, _, rfl, _, rfl, _, rfl, by show 3 ≤ sizeLine; decide, fun Y hY => ?_⟩
            have eW : [V.str (Tx o), V.str (Tx o), V.str (cutS (Tx o) none (some (at_ : Int)) ++ Tx [(kSgn k).getD t4 0] ++ cutS (Tx o) (some ((at_ : Int) + 1)) none)] = wV [o, o, o.take at_ ++ [(kSgn k).getD t4 0] ++ o.drop (at_ + 1)] := by
              rw [eS3]
              rfl
            have ko : KQ k o := fun c hc => List.mem_append_left _ (oc c hc)
            have kb : KQ k (o.take at_ ++ [(kSgn k).getD t4 0] ++ o.drop (at_ + 1)) := (ko.take.app (KQ.one (List.mem_append_left _ kc))).app ko.drop
            generalize o.take at_ ++ [(kSgn k).getD t4 0] ++ o.drop (at_ + 1) = b at lm eW kb
            have eY : (upd H8 Y (.lst [V.str (Tx o), V.str (Tx o), V.str (cutS (Tx o) none (some (at_ : Int)) ++ Tx [(kSgn k).getD t4 0] ++ cutS (Tx o) (some ((at_ : Int) + 1)) none)])) Y = some (.lst (wV [o, o, b])) := by
              rw [← eW]
              exact upd_same
            have sY : Same H8 (upd H8 Y (.lst [V.str (Tx o), V.str (Tx o), V.str (cutS (Tx o) none (some (at_ : Int)) ++ Tx [(kSgn k).getD t4 0] ++ cutS (Tx o) (some ((at_ : Int) + 1)) none)])) := same_upd hY
            have npY : Y ≠ p := hP8.ne hY
            have good : ∀ x ∈ [o, o, b], As x ∧ 32 ∉ x ∧ x.length ≤ 1000 := fun x hx => by
              simp only [List.mem_cons, List.mem_nil_iff, or_false] at hx
              rcases hx with rfl | rfl | rfl
              · exact ⟨ko.plain.1, ko.plain.2, by omega⟩
              · exact ⟨ko.plain.1, ko.plain.2, by omega⟩
              · exact ⟨kb.plain.1, kb.plain.2, by omega⟩
            refine ⟨_, rfl, p, 3, rfl, by decide, big_lt (by decide), hP8.same sY, fun r6 H6 hr6 s6 hP6 => ?_⟩
            refine ⟨Y, _, _, _, rfl, rfl, .inl (.inl (s6 _ _ npY eY)), atI_nat (j := r6) (wV_at (by show r6 < 3; omega)), by show 2 ≤ sizeLine; decide, fun D hD => ?_⟩
            have gm := good _ (getD_mem (ws := [o, o, b]) (i := r6) (by show r6 < 3; omega))
            have s9 := ((((s05.trans s7).trans s8).trans (sameX sY)).trans s6)
            exact q hd _ _ D ⟨hh, fun y => by rw [e2] at y; exact absurd y (by decide), fun _ => gm⟩ (s9.trans (sameX (same_upd hD))) (hP6.same (same_upd hD)) (s9.free (hP6.ne hD) hD) upd_same
end
end BR
set_option Elab.async false
set_option linter.all false
set_option maxRecDepth 100000
set_option maxHeartbeats 4000000
/-! M9: what an order comes to; plain -/
namespace BR
open PySem PySem.Spec PyProof.Rows L2
theorem let_ok {c : Nat} (h : c ∈ lLET) : c < 128 ∧ c ≠ 32 ∧ c ≠ 9 := by
  have h1 : ∀ c ∈ lLET, c < 128 ∧ c ≠ 32 ∧ c ≠ 9 := by decide
  exact h1 c h
theorem fig_ok {c : Nat} (h : c ∈ lFIG) : c < 128 ∧ c ≠ 32 ∧ c ≠ 9 := by
  have h1 : ∀ c ∈ lFIG, c < 128 ∧ c ≠ 32 ∧ c ≠ 9 := by decide
  exact h1 c h
theorem set_ok {k c : Nat} (h : c ∈ kSet k ++ [63]) : c ≠ 9 := by
  rcases List.mem_append.mp h with z | z
  · have h1 : ∀ c ∈ lBR, c ≠ 9 := by decide
    exact h1 c (List.mem_of_mem_take z)
  · rw [List.mem_singleton.mp z]
    decide
/-- a word of an order -/
def Wrd (w : List Nat) : Prop := 32 ∉ w ∧ As w ∧ w.length ≤ 1000
theorem nm_word {n : List Nat} (h : nmOk n = true) : Wrd n := by
  unfold nmOk at h
  obtain ⟨h1, h3⟩ := Bool.and_eq_true_iff.mp h
  obtain ⟨_, h2⟩ := Bool.and_eq_true_iff.mp h1
  have h4 : ∀ c ∈ n, c ∈ lLET := fun c hc => of_decide_eq_true (List.all_eq_true.mp h3 c hc)
  have h5 := of_decide_eq_true h2
  exact ⟨fun z => (let_ok (h4 32 z)).2.1 rfl, fun c hc => (let_ok (h4 c hc)).1, by omega⟩
theorem num_word {n : List Nat} (h : numOk n = true) : Wrd n := by
  unfold numOk at h
  obtain ⟨h0, _⟩ := Bool.and_eq_true_iff.mp h
  obtain ⟨h1, h3⟩ := Bool.and_eq_true_iff.mp h0
  obtain ⟨_, h2⟩ := Bool.and_eq_true_iff.mp h1
  have h4 : ∀ c ∈ n, c ∈ lFIG := fun c hc => of_decide_eq_true (List.all_eq_true.mp h3 c hc)
  have h5 := of_decide_eq_true h2
  exact ⟨fun z => (fig_ok (h4 32 z)).2.1 rfl, fun c hc => (fig_ok (h4 c hc)).1, by omega⟩
theorem row_word {k : Nat} {r : List Nat} (h : rowBy k r = true) : Wrd r := by
  obtain ⟨g1, g2⟩ := (KQ.of_row h).plain
  have := rowBy_len h
  exact ⟨g2, g1, by omega⟩
def lHD : List (List Nat) := [Wt "kinds", Wt "row", Wt "turn", Wt "behind", Wt "drop", Wt "names", Wt "show", Wt "right", Wt "may", Wt "many", Wt "nth", Wt "number", Wt "sure", Wt "fewest", Wt "more", [], Wt "a"]
instance (w : List Nat) : Decidable (As w) := by
  unfold As
  infer_instance
instance (w : List Nat) : Decidable (Wrd w) := by
  unfold Wrd
  infer_instance
theorem hd_word {w : List Nat} (h : w ∈ lHD) : Wrd w := by
  have h1 : ∀ w ∈ lHD, Wrd w := by decide
  exact h1 w h
theorem ord_of {ws : List (List Nat)} (h0 : ws ≠ []) (h1 : ∀ w ∈ ws, Wrd w) (h2 : ws.length ≤ 10) (h3 : isWR (ws.getD 0 []) = true ∨ ∃ p ∈ lFORMS, p.1 = ws.getD 0 []) (h4 : ws.getD 0 [] = Wt "kinds" → 1 ≤ valT (ws.getD 1 []) ∧ valT (ws.getD 1 []) ≤ 4) : OrdOk ws :=
  ⟨⟨h0, h1, h2, h3⟩, h4⟩
theorem prt_w {h : List Nat} {r : List (List Nat)} (h0 : isWR h = false) (h1 : r.length = (formOf h).length) (h2 : ∀ i, i < (formOf h).length → okKW ((formOf h).getD i 0) (r.getD i []) = true) : prt (h :: r) = some (h :: r) := by
  unfold prt
  rw [show (h :: r).getD 0 [] = h from rfl, if_neg (by rw [h0]; decide), if_neg (by rw [List.length_cons, h1]; exact fun z => z rfl)]
  exact if_pos (List.all_eq_true.mpr fun i hi => h2 i (List.mem_range.mp hi))
theorem prt_r {h n : List Nat} {r : List (List Nat)} (h0 : isWR h = true) (h1 : nmOk n = true) (h2 : 1 ≤ r.length) : prt (h :: n :: r) = some [h, n, TL.joinL [32] r] := by
  unfold prt
  rw [show (h :: n :: r).getD 0 [] = h from rfl, if_pos h0, show (h :: n :: r).getD 1 [] = n from rfl, if_neg (by
    rw [List.length_cons, List.length_cons]
    rintro (z | z)
    · omega
    · rw [h1] at z
      cases z)]
  rfl
theorem ok_nm {n : List Nat} (h : nmOk n = true) : okKW 97 n = true := by
  unfold okKW
  rw [h]
  rfl
theorem ok_num {n : List Nat} (h : numOk n = true) : okKW 105 n = true := by
  unfold okKW
  rw [h]
  rfl
theorem say_deed {k : Nat} {kvs : List (L2.Key × V)} {ws u : List (List Nat)} (h : prt ws = some u) (h1 : isDeed (u.getD 0 []) = true) : sayM k kvs ws = (match deedM k kvs u with
    | .ok (k', kvs') => .ok (Str.ofString "ok", k', kvs')
    | .error e => .error e) := by
  unfold sayM
  rw [h]
  have h2 : u.getD 0 [] ≠ Wt "names" := fun z => by
    rw [z] at h1
    exact absurd h1 (by decide)
  show (if u.getD 0 [] = Wt "names" then _ else _) = _
  rw [if_neg h2, if_pos h1]
  try (cases deedM k kvs u <;> rfl)
theorem say_ask {k : Nat} {kvs : List (L2.Key × V)} {ws u : List (List Nat)} (h : prt ws = some u) (h1 : isDeed (u.getD 0 []) = false) (h2 : u.getD 0 [] ≠ Wt "names") : sayM k kvs ws = (match askM k kvs u with
      | .ok t => .ok (Tx t, k, kvs)
      | .error e => .error e) := by
  unfold sayM
  rw [h]
  show (if u.getD 0 [] = Wt "names" then _ else _) = _
  rw [if_neg h2, if_neg (by rw [h1]; decide)]
  try (cases askM k kvs u <;> rfl)
/-- a row of words, its answer, what stands behind it -/
structure RowR (N : List (List Nat)) (k : Nat) (kvs : List (L2.Key × V)) (ws : List (List Nat)) (due : List Nat) (k' : Nat) (kvs' : List (L2.Key × V)) : Prop where
  ord : OrdOk ws
  kp : Kp N k' kvs'
  lo : 1 ≤ k'
  hi : k' ≤ 4
  ans : (sayM k kvs ws = .ok (Tx due, k', kvs') ∧ due.length ≤ 100000 ∧ 9 ∉ due) ∨ ∃ e, sayM k kvs ws = .error e ∧ due = 9 :: errW e ∧ k' = k ∧ kvs' = kvs
section
variable {N : List (List Nat)} {k : Nat} {kvs : List (L2.Key × V)}
theorem head_no {h : List Nat} {r : List (List Nat)} (z : h ≠ Wt "kinds") : (h :: r).getD 0 [] = Wt "kinds" → 1 ≤ valT ((h :: r).getD 1 []) ∧ valT ((h :: r).getD 1 []) ≤ 4 := fun y => absurd y z
theorem rr_deed {ws u : List (List Nat)} {k' : Nat} {kvs' : List (L2.Key × V)} (ho : OrdOk ws) (h : prt ws = some u) (h1 : isDeed (u.getD 0 []) = true) (hd : deedM k kvs u = .ok (k', kvs')) (hk : Kp N k' kvs') (k1 : 1 ≤ k') (k4 : k' ≤ 4) : RowR N k kvs ws (Wt "ok") k' kvs' := by
  refine ⟨ho, hk, k1, k4, .inl ⟨?_, by decide, by decide⟩⟩
  rw [say_deed h h1, hd, tx_W]
theorem rr_bad {ws u : List (List Nat)} {e : Nat} (ho : OrdOk ws) (h : prt ws = some u) (h1 : isDeed (u.getD 0 []) = true) (hd : deedM k kvs u = .error e) (hk : Kp N k kvs) (k1 : 1 ≤ k) (k4 : k ≤ 4) : RowR N k kvs ws (9 :: errW e) k kvs := by
  refine ⟨ho, hk, k1, k4, .inr ⟨e, ?_, rfl, rfl, rfl⟩⟩
  rw [say_deed h h1, hd]
theorem rr_none {ws : List (List Nat)} (ho : OrdOk ws) (h : prt ws = none) (hk : Kp N k kvs) (k1 : 1 ≤ k) (k4 : k ≤ 4) : RowR N k kvs ws (9 :: errW 0) k kvs := by
  refine ⟨ho, hk, k1, k4, .inr ⟨0, ?_, rfl, rfl, rfl⟩⟩
  unfold sayM
  rw [h]
theorem two {P : List Nat → Prop} {a b : List Nat} (ha : P a) (hb : P b) : ∀ w ∈ [a, b], P w := fun w hw => by
  simp only [List.mem_cons, List.mem_nil_iff, or_false] at hw
  rcases hw with rfl | rfl
  · exact ha
  · exact hb
theorem three {P : List Nat → Prop} {a b c : List Nat} (ha : P a) (hb : P b) (hc : P c) : ∀ w ∈ [a, b, c], P w := fun w hw => by
  rcases List.mem_cons.mp hw with rfl | hw
  · exact ha
  · exact two hb hc w hw
theorem four {P : List Nat → Prop} {a b c d : List Nat} (ha : P a) (hb : P b) (hc : P c) (hd : P d) : ∀ w ∈ [a, b, c, d], P w := fun w hw => by
  rcases List.mem_cons.mp hw with rfl | hw
  · exact ha
  · exact three hb hc hd w hw
theorem rr_kinds {j : Nat} (j1 : 1 ≤ j) (j4 : j ≤ 4) : RowR N k kvs [Wt "kinds", numT j] (Wt "ok") j [] := by
  have ev : valT (numT j) = j := by
    have h1 : ∀ j, j ≤ 4 → valT (numT j) = j := by decide +kernel
    exact h1 j j4
  have en : numOk (numT j) = true := numOk_num (by omega)
  refine rr_deed (u := [Wt "kinds", numT j]) (ord_of (by simp) (two (hd_word (by decide)) (num_word en)) (by show 2 ≤ 10; decide) (.inr ⟨_, List.mem_cons_self, rfl⟩) fun _ => ?_) (prt_w (by decide) rfl fun i hi => ?_) (by show isDeed (Wt "kinds") = true; decide) ?_ (Kp.nil N j) j1 j4
  · show 1 ≤ valT (numT j) ∧ valT (numT j) ≤ 4
    rw [ev]
    exact ⟨j1, j4⟩
  · have : i = 0 := by
      have : i < 1 := hi
      omega
    subst this
    exact ok_num en
  · unfold deedM
    rw [if_pos (show [Wt "kinds", numT j].getD 0 [] = Wt "kinds" from rfl)]
    show Except.ok (valT (numT j), []) = _
    rw [ev]
theorem rr_row {n r : List Nat} (hn : nmOk n = true) (hN : n ∈ N) (hr : rowBy k r = true) (hk : Kp N k kvs) (k1 : 1 ≤ k) (k4 : k ≤ 4) : RowR N k kvs [Wt "row", n, r] (Wt "ok") k (putK kvs (kN n) (.str (Tx r))) := by
  refine rr_deed (u := [Wt "row", n, r]) (ord_of (by simp) (three (hd_word (by decide)) (nm_word hn) (row_word hr)) (by show 3 ≤ 10; decide) (.inl (by show isWR (Wt "row") = true; decide)) (head_no (by decide))) (prt_r (by decide) hn (by show 1 ≤ 1; decide)) (by show isDeed (Wt "row") = true; decide) ?_ (hk.put hN hr) k1 k4
  unfold deedM
  rw [if_neg (show ¬ ([Wt "row", n, r].getD 0 [] = Wt "kinds") from (by decide : ¬ (Wt "row" = Wt "kinds"))), if_pos (show [Wt "row", n, r].getD 0 [] = Wt "row" from rfl)]
  show (if rowBy k r = true then _ else _) = _
  rw [if_pos hr]
  rfl
theorem rr_turn {n m : List Nat} (hn : nmOk n = true) (hm : nmOk m = true) (hN : n ∈ N) (hk : Kp N k kvs) (k1 : 1 ≤ k) (k4 : k ≤ 4) : (rowOf kvs m = none → RowR N k kvs [Wt "turn", n, m] (9 :: errW 1) k kvs) ∧ ∀ r, rowOf kvs m = some r → RowR N k kvs [Wt "turn", n, m] (Wt "ok") k (putK kvs (kN n) (.str (Tx (trn r)))) := by
  have hdd : isDeed ([Wt "turn", n, m].getD 0 []) = true := by
    show isDeed (Wt "turn") = true
    decide
  have ho : OrdOk [Wt "turn", n, m] := ord_of (by simp) (three (hd_word (by decide)) (nm_word hn) (nm_word hm)) (by show 3 ≤ 10; decide) (.inr ⟨_, .tail _ (.head _), rfl⟩) (head_no (by decide))
  have hp : prt [Wt "turn", n, m] = some [Wt "turn", n, m] := prt_w (by decide) rfl fun i hi => by
    have : i < 2 := hi
    match i, this with
    | 0, _ => exact ok_nm hn
    | 1, _ => exact ok_nm hm
  have hd : deedM k kvs [Wt "turn", n, m] = (match rowOf kvs m with
    | none => .error 1
    | some r => .ok (k, putK kvs (kN n) (.str (Tx (trn r))))) := by
    unfold deedM
    rw [if_neg (show ¬ ([Wt "turn", n, m].getD 0 [] = Wt "kinds") from (by decide : ¬ (Wt "turn" = Wt "kinds"))), if_neg (show ¬ ([Wt "turn", n, m].getD 0 [] = Wt "row") from (by decide : ¬ (Wt "turn" = Wt "row"))), if_pos (show [Wt "turn", n, m].getD 0 [] = Wt "turn" from rfl)]
    rfl
  refine ⟨fun z => rr_bad ho hp hdd (by rw [hd, z]) hk k1 k4, fun r z => rr_deed ho hp hdd (by rw [hd, z]) (hk.put hN (trn_row k4 (row_kept hk z))) k1 k4⟩
theorem rr_drop {n : List Nat} (hn : nmOk n = true) (hk : Kp N k kvs) (k1 : 1 ≤ k) (k4 : k ≤ 4) : (rowOf kvs n = none → RowR N k kvs [Wt "drop", n] (9 :: errW 1) k kvs) ∧ ∀ r, rowOf kvs n = some r → RowR N k kvs [Wt "drop", n] (Wt "ok") k (dropK kvs (kN n)) := by
  have hdd : isDeed ([Wt "drop", n].getD 0 []) = true := by
    show isDeed (Wt "drop") = true
    decide
  have ho : OrdOk [Wt "drop", n] := ord_of (by simp) (two (hd_word (by decide)) (nm_word hn)) (by show 2 ≤ 10; decide) (.inr ⟨_, .tail _ (.tail _ (.tail _ (.head _))), rfl⟩) (head_no (by decide))
  have hp : prt [Wt "drop", n] = some [Wt "drop", n] := prt_w (by decide) rfl fun i hi => by
    have : i < 1 := hi
    match i, this with
    | 0, _ => exact ok_nm hn
  have hd : deedM k kvs [Wt "drop", n] = (match rowOf kvs n with
    | none => .error 1
    | some _ => .ok (k, dropK kvs (kN n))) := by
    unfold deedM
    rw [if_neg (show ¬ ([Wt "drop", n].getD 0 [] = Wt "kinds") from (by decide : ¬ (Wt "drop" = Wt "kinds"))), if_neg (show ¬ ([Wt "drop", n].getD 0 [] = Wt "row") from (by decide : ¬ (Wt "drop" = Wt "row"))),
      if_neg (show ¬ ([Wt "drop", n].getD 0 [] = Wt "turn") from (by decide : ¬ (Wt "drop" = Wt "turn"))), if_neg (show ¬ ([Wt "drop", n].getD 0 [] = Wt "behind") from (by decide : ¬ (Wt "drop" = Wt "behind")))]
    rfl
  exact ⟨fun z => rr_bad ho hp hdd (by rw [hd, z]) hk k1 k4, fun r z => rr_deed ho hp hdd (by rw [hd, z]) (hk.drop n) k1 k4⟩
theorem rr_behind {n a b : List Nat} (hn : nmOk n = true) (ha : nmOk a = true) (hb : nmOk b = true) (hN : n ∈ N) (hk : Kp N k kvs) (k1 : 1 ≤ k) (k4 : k ≤ 4) :
    (rowOf kvs a = none ∨ rowOf kvs b = none → RowR N k kvs [Wt "behind", n, a, b] (9 :: errW 1) k kvs) ∧ ∀ r r2, rowOf kvs a = some r → rowOf kvs b = some r2 → (¬ (r ++ r2).length ≤ 40 → RowR N k kvs [Wt "behind", n, a, b] (9 :: errW 3) k kvs) ∧
      ((r ++ r2).length ≤ 40 → RowR N k kvs [Wt "behind", n, a, b] (Wt "ok") k (putK kvs (kN n) (.str (Tx (r ++ r2))))) := by
  have hdd : isDeed ([Wt "behind", n, a, b].getD 0 []) = true := by
    show isDeed (Wt "behind") = true
    decide
  have ho : OrdOk [Wt "behind", n, a, b] := ord_of (by simp) (four (hd_word (by decide)) (nm_word hn) (nm_word ha) (nm_word hb)) (by show 4 ≤ 10; decide) (.inr ⟨_, .tail _ (.tail _ (.head _)), rfl⟩) (head_no (by decide))
  have hp : prt [Wt "behind", n, a, b] = some [Wt "behind", n, a, b] := prt_w (by decide) rfl fun i hi => by
    have : i < 3 := hi
    match i, this with
    | 0, _ => exact ok_nm hn
    | 1, _ => exact ok_nm ha
    | 2, _ => exact ok_nm hb
  have hd : deedM k kvs [Wt "behind", n, a, b] = (match rowOf kvs a with
    | none => .error 1
    | some r => match rowOf kvs b with
      | none => .error 1
      | some r2 => if rowBy k (r ++ r2) = true then .ok (k, putK kvs (kN n) (.str (Tx (r ++ r2)))) else .error 3) := by
    unfold deedM
    rw [if_neg (show ¬ ([Wt "behind", n, a, b].getD 0 [] = Wt "kinds") from (by decide : ¬ (Wt "behind" = Wt "kinds"))), if_neg (show ¬ ([Wt "behind", n, a, b].getD 0 [] = Wt "row") from (by decide : ¬ (Wt "behind" = Wt "row"))),
      if_neg (show ¬ ([Wt "behind", n, a, b].getD 0 [] = Wt "turn") from (by decide : ¬ (Wt "behind" = Wt "turn"))), if_pos (show [Wt "behind", n, a, b].getD 0 [] = Wt "behind" from rfl)]
    rfl
  refine ⟨fun z => rr_bad ho hp hdd ?_ hk k1 k4, fun r r2 z1 z2 => ⟨fun z => rr_bad ho hp hdd ?_ hk k1 k4, fun z => ?_⟩⟩
  · rw [hd]
    rcases z with z | z
    · rw [z]
    · rw [z]
      cases rowOf kvs a <;> rfl
  · rw [hd, z1]
    show (match rowOf kvs b with | none => _ | some r2 => _) = _
    rw [z2]
    show (if rowBy k (r ++ r2) = true then _ else _) = _
    rw [if_neg fun y => z (rowBy_len y)]
  · have hrow : rowBy k (r ++ r2) = true := ((KQ.of_row (row_kept hk z1)).app (KQ.of_row (row_kept hk z2))).row z
    refine rr_deed ho hp hdd ?_ (hk.put hN hrow) k1 k4
    rw [hd, z1]
    show (match rowOf kvs b with | none => _ | some r2 => _) = _
    rw [z2]
    show (if rowBy k (r ++ r2) = true then _ else _) = _
    rw [if_pos hrow]
/-- rows of words that are none -/
def lBAD : List (List (List Nat)) := [[Wt "names", []], [Wt "show"], [Wt "turn", Wt "a"], [Wt "row", Wt "a"]]
theorem rr_odd {ws : List (List Nat)} (h : ws ∈ lBAD) (hk : Kp N k kvs) (k1 : 1 ≤ k) (k4 : k ≤ 4) : RowR N k kvs ws (9 :: errW 0) k kvs := by
  have h1 : ∀ ws ∈ lBAD, ws ≠ [] ∧ (∀ w ∈ ws, Wrd w) ∧ ws.length ≤ 10 ∧ (isWR (ws.getD 0 []) = true ∨ ∃ p ∈ lFORMS, p.1 = ws.getD 0 []) ∧ ws.getD 0 [] ≠ Wt "kinds" ∧ prt ws = none := by decide
  obtain ⟨a1, a2, a3, a4, a5, a6⟩ := h1 ws h
  exact rr_none (ord_of a1 a2 a3 a4 fun y => absurd y a5) a6 hk k1 k4
theorem rr_names (hk : Kp N k kvs) (hN : NmsOk N) (k1 : 1 ≤ k) (k4 : k ≤ 4) (due : List Nat) (hd : Tx due = if kvs.isEmpty then Str.ofString "none" else Txt.join (Str.ofString " ") (nmS kvs)) (h1 : due.length ≤ 100000) (h2 : 9 ∉ due) : RowR N k kvs [Wt "names"] due k kvs := by
  have ho : OrdOk [Wt "names"] := ord_of (by simp) (fun w hw => by rw [List.mem_singleton.mp hw]; exact hd_word (by decide)) (by decide) (.inr ⟨(Wt "names", Wt ""), by decide, rfl⟩) (head_no (by decide))
  refine ⟨ho, hk, k1, k4, .inl ⟨?_, h1, h2⟩⟩
  have hp : prt [Wt "names"] = some [Wt "names"] := by decide
  unfold sayM
  rw [hp]
  show (if Wt "names" = Wt "names" then _ else _) = _
  rw [if_pos rfl, hd]
end
end BR
set_option Elab.async false
set_option linter.all false
set_option maxRecDepth 100000
set_option maxHeartbeats 4000000
/-! M10: what a question comes to; plain -/
namespace BR
open PySem PySem.Spec PyProof.Rows L2
/-- a text that may be told -/
def Fine (t : List Nat) : Prop := t.length ≤ 100000 ∧ 9 ∉ t
theorem fine_num {n : Nat} (h : n < 2 ^ 1900) : (numT n).length ≤ 1900 ∧ 9 ∉ numT n := by
  have h1 : n < 10 ^ 1900 := Nat.lt_of_lt_of_le h (Nat.pow_le_pow_left (by decide) _)
  exact ⟨numT_len (by decide) h1, fun z => (fig_ok ((figs n).1 9 z)).2.2 rfl⟩
theorem fine_shw {l : List Nat} (h : l.length ≤ 100) (h9 : 9 ∉ l) : (shw l).length ≤ 100 ∧ 9 ∉ shw l := by
  unfold shw
  split
  · exact ⟨by decide, by decide⟩
  · exact ⟨h, h9⟩
theorem row_9 {k : Nat} {l : List Nat} (h : rowBy k l = true) : 9 ∉ l := fun z => set_ok (KQ.of_row h 9 z) rfl
theorem fold_9 : ∀ (xs : List (Nat × Nat)) (l : List Nat), (∀ x ∈ xs, x.2 ≠ 9) → 9 ∉ l → 9 ∉ xs.foldl (fun m x => m.set x.1 x.2) l
  | [], l, _, h => h
  | x :: xs, l, hx, h => by
    refine fold_9 xs (l.set x.1 x.2) (fun y hy => hx y (List.mem_cons_of_mem _ hy)) fun z => ?_
    rcases List.mem_or_eq_of_mem_set z with z | z
    · exact h z
    · exact hx x List.mem_cons_self z.symm
theorem sure_9 {k : Nat} {l : List Nat} (h : rowBy k l = true) : (sureRow k l).length ≤ 100 ∧ 9 ∉ sureRow k l := by
  have hl := rowBy_len h
  refine ⟨?_, fold_9 _ _ (fun x hx => ?_) (row_9 h)⟩
  · unfold sureRow
    rw [fold_len]
    omega
  · obtain ⟨p, _, hp⟩ := List.mem_flatMap.mp hx
    unfold sureAt at hp
    split at hp
    · obtain ⟨c, hc, rfl⟩ := List.mem_map.mp hp
      exact set_ok (k := k) (List.mem_append_left _ (List.mem_filter.mp hc).1)
    · cases hp
theorem fill_9 {k i : Nat} {l : List Nat} (hk : k ≤ 4) (h : rowBy k l = true) (hi : i < Wn k l) : (nF k l i).length ≤ 100 ∧ 9 ∉ nF k l i := by
  have sW : Wd k l 0 l.length = Wn k l := by
    unfold Wd
    rw [sl_all]
  obtain ⟨-, -, -, ol, oc⟩ := nS_ok (k := k) (l := l) (i := i) hk (by rw [sW]; exact hi) l.length (Nat.le_refl _)
  have hl := rowBy_len h
  refine ⟨?_, fun z => set_ok (k := k) (List.mem_append_left _ (oc 9 z)) rfl⟩
  show (nS k l i l.length).2.2.length ≤ 100
  rw [ol]
  omega
theorem br_9 (i : Nat) : br i ≠ 9 := by
  unfold br
  by_cases h : i < 8
  · have h1 : ∀ i, i < 8 → lBR.getD i 0 ≠ 9 := by decide
    exact h1 i h
  · rw [List.getD_eq_getElem?_getD, List.getElem?_eq_none (show lBR.length ≤ i from Nat.le_of_not_lt h)]
    decide
theorem Fine.of {t : List Nat} {n : Nat} (h : t.length ≤ n ∧ 9 ∉ t) (hn : n ≤ 100000) : Fine t := ⟨Nat.le_trans h.1 hn, h.2⟩
theorem tell_fine {k : Nat} {hd l more t : List Nat} (k1 : 1 ≤ k) (k4 : k ≤ 4) (hr : rowBy k l = true) (h : tellM k hd l more = .ok t) : Fine t := by
  have hl := rowBy_len hr
  have yn : Fine (Wt "yes") ∧ Fine (Wt "no") ∧ Fine (Wt "none") := ⟨⟨by decide, by decide⟩, ⟨by decide, by decide⟩, ⟨by decide, by decide⟩⟩
  unfold tellM at h
  split at h
  · cases h
    exact Fine.of (fine_shw (by omega) (row_9 hr)) (by decide)
  split at h
  · cases h
    split
    · exact yn.1
    · exact yn.2.1
  split at h
  · cases h
    split
    · exact yn.2.1
    · exact yn.1
  split at h
  · split at h
    · rename_i c
      cases h
      obtain ⟨f1, f2⟩ := fill_9 k4 hr c
      exact Fine.of (fine_shw f1 f2) (by decide)
    · cases h
  split at h
  · split at h
    · cases h
      obtain ⟨f1, f2⟩ := sure_9 hr
      exact Fine.of (fine_shw f1 f2) (by decide)
    · cases h
  split at h
  · cases h
    exact Fine.of (fine_num (wn_lt k4 hl)) (by decide)
  split at h
  · split at h
    · rename_i c
      cases h
      have hm := (isF_sigs c).1
      exact Fine.of (fine_num (nO_lt k4 hl (by omega))) (by decide)
    · cases h
  split at h
  · split at h
    · cases h
      exact yn.2.2
    · cases h
      have b1 := bst_le k1 l (l.length / 2) (l.length / 2) 0 (Nat.le_refl _)
      obtain ⟨b2, _⟩ := bst_ok k1 k4 l (l.length / 2) (l.length / 2) 0 (Nat.le_refl _)
      obtain ⟨f1, f2⟩ := fine_num (small_lt (n := (bst k l (l.length / 2) 0).1) (by omega))
      obtain ⟨g1, g2⟩ := fine_shw (l := (bst k l (l.length / 2) 0).2.map br) (by rw [List.length_map, b2]; omega) (fun z => by
        obtain ⟨i, _, hi⟩ := List.mem_map.mp z
        exact br_9 i hi)
      refine ⟨?_, fun z => ?_⟩
      · rw [List.length_append, List.length_append]
        show _ + 1 + _ ≤ _
        omega
      · rcases List.mem_append.mp z with z | z
        · rcases List.mem_append.mp z with z | z
          · exact f2 z
          · exact absurd (List.mem_singleton.mp z) (by decide)
        · exact g2 z
  · cases h
    cases e : dpt k l with
    | nil => exact yn.2.2
    | cons m r =>
      have hm : m ∈ dpt k l := by rw [e]; exact List.mem_cons_self
      have := (upTo_mem.mp hm).1
      exact Fine.of (fine_num (small_lt (n := m) (by omega))) (by decide)
theorem tell_any {k : Nat} {hd l : List Nat} (h1 : hd ≠ Wt "nth") (h2 : hd ≠ Wt "number") (a b : List Nat) : tellM k hd l a = tellM k hd l b := by
  unfold tellM
  simp only [if_neg h1, if_neg h2]
/-- the words of a question -/
def askW (hd n more : List Nat) : List (List Nat) := if hd = Wt "nth" ∨ hd = Wt "number" then [hd, n, more] else [hd, n]
section
variable {N : List (List Nat)} {k : Nat} {kvs : List (L2.Key × V)}
theorem rr_one {ws u : List (List Nat)} {hd n more : List Nat} (ho : OrdOk ws) (hp : prt ws = some u) (hh : hd ∈ lHEADS) (h0 : u.getD 0 [] = hd) (h1 : u.getD 1 [] = n) (h2 : u.getD 2 [] = more ∨ (hd ≠ Wt "nth" ∧ hd ≠ Wt "number"))
    (hk : Kp N k kvs) (k1 : 1 ≤ k) (k4 : k ≤ 4) : (rowOf kvs n = none → RowR N k kvs ws (9 :: errW 1) k kvs) ∧ ∀ r, rowOf kvs n = some r → RowR N k kvs ws (dueT k hd r more) k kvs := by
  have d1 : ∀ h ∈ lHEADS, isDeed h = false ∧ h ≠ Wt "names" := by decide
  obtain ⟨d2, d3⟩ := d1 hd hh
  have hs := say_ask (kvs := kvs) (k := k) hp (by rw [h0]; exact d2) (by rw [h0]; exact d3)
  refine ⟨fun z => ⟨ho, hk, k1, k4, .inr ⟨1, ?_, rfl, rfl, rfl⟩⟩, fun r z => ?_⟩
  · rw [hs]
    unfold askM
    rw [h1, z]
  · have ha : askM k kvs u = if hd = Wt "number" ∧ rowBy k more = false then .error 3 else tellM k hd r more := by
      unfold askM
      rw [h1, z, h0]
      show (if hd = Wt "number" ∧ rowBy k (u.getD 2 []) = false then _ else tellM k hd r (u.getD 2 [])) = _
      rcases h2 with h2 | ⟨h2, h3⟩
      · rw [h2]
      · rw [if_neg fun y => h3 y.1, if_neg fun y => h3 y.1]
        exact tell_any h2 h3 _ _
    rw [ha] at hs
    unfold dueT
    by_cases c : hd = Wt "number" ∧ rowBy k more = false
    · rw [if_pos c] at hs ⊢
      exact ⟨ho, hk, k1, k4, .inr ⟨3, hs, rfl, rfl, rfl⟩⟩
    · rw [if_neg c] at hs ⊢
      cases e : tellM k hd r more with
      | ok t =>
        rw [e] at hs
        obtain ⟨f1, f2⟩ := tell_fine k1 k4 (row_kept hk z) e
        exact ⟨ho, hk, k1, k4, .inl ⟨hs, f1, f2⟩⟩
      | error x =>
        rw [e] at hs
        exact ⟨ho, hk, k1, k4, .inr ⟨x, hs, rfl, rfl, rfl⟩⟩
theorem rr_ask {hd n more : List Nat} (q : QOk hd more) (hn : nmOk n = true) (hk : Kp N k kvs) (k1 : 1 ≤ k) (k4 : k ≤ 4) :
    (rowOf kvs n = none → RowR N k kvs (askW hd n more) (9 :: errW 1) k kvs) ∧ ∀ r, rowOf kvs n = some r → RowR N k kvs (askW hd n more) (dueT k hd r more) k kvs := by
  have d1 : ∀ h ∈ lHEADS, h ∈ lHD ∧ h ≠ Wt "kinds" ∧ (isWR h = true ∨ ∃ p ∈ lFORMS, p.1 = h) ∧ (h ≠ Wt "nth" → h ≠ Wt "number" → isWR h = false ∧ formOf h = Wt "a") := by decide
  obtain ⟨d2, d3, d4, d5⟩ := d1 hd q.head
  unfold askW
  by_cases c1 : hd = Wt "nth"
  · rw [if_pos (.inl c1)]
    have hm := q.num c1
    refine rr_one (u := [hd, n, more]) (ord_of (by simp) (three (hd_word d2) (nm_word hn) (num_word hm)) (by show 3 ≤ 10; decide) d4 (head_no d3)) (prt_w (by rw [c1]; decide) (by rw [c1]; rfl) fun i hi => ?_) q.head rfl rfl (.inl rfl) hk k1 k4
    rw [c1] at hi ⊢
    have : i < 2 := hi
    match i, this with
    | 0, _ => exact ok_nm hn
    | 1, _ => exact ok_num hm
  by_cases c2 : hd = Wt "number"
  · rw [if_pos (.inr c2)]
    obtain ⟨m1, m2, m3⟩ := q.as c2
    exact rr_one (u := [hd, n, more]) (ord_of (by simp) (three (hd_word d2) (nm_word hn) ⟨m2, m1, m3⟩) (by show 3 ≤ 10; decide) d4 (head_no d3)) (prt_r (by rw [c2]; decide) hn (by show 1 ≤ 1; decide)) q.head rfl rfl (.inl rfl) hk k1 k4
  · rw [if_neg fun z => z.elim c1 c2]
    obtain ⟨e1, e2⟩ := d5 c1 c2
    refine rr_one (u := [hd, n]) (ord_of (by simp) (two (hd_word d2) (nm_word hn)) (by show 2 ≤ 10; decide) d4 (head_no d3)) (prt_w e1 (by rw [e2]; rfl) fun i hi => ?_) q.head rfl rfl (.inr ⟨c1, c2⟩) hk k1 k4
    rw [e2] at hi ⊢
    have : i < 1 := hi
    match i, this with
    | 0, _ => exact ok_nm hn
end
end BR
set_option Elab.async false
set_option linter.all false
set_option maxRecDepth 100000
set_option maxHeartbeats 4000000
/-! L11: the law's helpers: deed -/
namespace BR
open PySem PySem.Spec PyProof.Rows L2
def rLenL (K : PySem.W.Frag) : List V → Hp → VK → Prop := fun us G R => ∃ b zs, us = [.ref b] ∧ (SqL K G b zs ∨ SqT K G b zs) ∧ R (.int zs.length) G
/-- a state: how many kinds, the rows kept -/
def kKi : L2.Key := Sum.inr (Str.ofString "kinds")
def kKe : L2.Key := Sum.inr (Str.ofString "kept")
def stF (k : Nat) (d : Addr) : List (L2.Key × V) := [(kKi, nI k), (kKe, .ref d)]
theorem stF_ki (k : Nat) (d : Addr) : valV (stF k d) kKi = some (nI k) := rfl
theorem stF_ke (k : Nat) (d : Addr) : valV (stF k d) kKe = some (.ref d) := rfl
theorem stF_pi (k j : Nat) (d : Addr) : putK (stF k d) kKi (nI j) = stF j d := rfl
theorem stF_pe (k : Nat) (d e : Addr) : putK (stF k d) kKe (.ref e) = stF k e := rfl
structure StAt (H : Hp) (S d : Addr) (k : Nat) (kvs : List (L2.Key × V)) : Prop where
  es : H S = some (.dK (stF k d))
  ed : H d = some (.dK kvs)
  ne : S ≠ d
theorem StAt.sameX {H H' : Hp} {S d p : Addr} {k : Nat} {kvs : List (L2.Key × V)} (h : StAt H S d k kvs) (hP : PoolAt H p) (s : SameX p H H') : StAt H' S d k kvs := by
  obtain ⟨a, b, c, e⟩ := hP
  exact ⟨s _ _ (fun z => by have := h.es; rw [z, e] at this; cases this) h.es, s _ _ (fun z => by have := h.ed; rw [z, e] at this; cases this) h.ed, h.ne⟩
theorem StAt.same {H H' : Hp} {S d : Addr} {k : Nat} {kvs : List (L2.Key × V)} (h : StAt H S d k kvs) (s : Same H H') : StAt H' S d k kvs := ⟨s _ _ h.es, s _ _ h.ed, h.ne⟩
def SameD (p S d : Addr) (H H' : Hp) : Prop := ∀ x o, x ≠ p → x ≠ S → x ≠ d → H x = some o → H' x = some o
theorem sameD {p S d : Addr} {H H' : Hp} (s : SameX p H H') : SameD p S d H H' := fun x o h _ _ e => s x o h e
theorem SameD.trans {p S d : Addr} {H H1 H' : Hp} (a : SameD p S d H H1) (b : SameD p S d H1 H') : SameD p S d H H' := fun x o h1 h2 h3 e => b x o h1 h2 h3 (a x o h1 h2 h3 e)
theorem cat3 (s : String) (n m : List Nat) (hs : (Wt s).length ≤ 10) (hn : n.length ≤ 1000) (hm : m.length ≤ 1000) : (Str.ofString s).length + (Tx n).length ≤ sizeLine ∧ (Str.ofString s ++ Tx n).length + (Str.ofString " ").length ≤ sizeLine ∧
    (Str.ofString s ++ Tx n ++ Str.ofString " ").length + (Tx m).length ≤ sizeLine ∧ Str.ofString s ++ Tx n ++ Str.ofString " " ++ Tx m = Tx (Wt s ++ n ++ [32] ++ m) := by
  have e1 : Str.ofString " " = Tx [32] := rfl
  rw [← tx_W s, e1, Tx_app, Tx_app, Tx_app, Tx_len, Tx_len, Tx_len, Tx_len, Tx_len, Tx_len]
  simp only [List.length_append, List.length_singleton]
  exact ⟨sl_le (by omega), sl_le (by omega), sl_le (by omega), trivial⟩
theorem err_tx (s : String) : Tx (9 :: Wt s) = Tx [9] ++ Str.ofString s := by
  rw [← tx_W s, Tx_app]
  rfl
theorem join3 (a n m : List Nat) : TL.joinL [32] [a, n, m] = a ++ [32] ++ n ++ [32] ++ m := by
  show a ++ ([32] ++ (n ++ ([32] ++ m))) = _
  simp only [List.append_assoc]
theorem join2 (a n : List Nat) : TL.joinL [32] [a, n] = a ++ [32] ++ n := by
  show a ++ ([32] ++ n) = _
  simp only [List.append_assoc]
theorem names_ne {H : Hp} {L p : Addr} {ns : List (List Nat)} (h1 : 1 ≤ ns.length) (e : H L = some (.lst (wV ns))) (hP : PoolAt H p) : L ≠ p := fun z => by
  obtain ⟨x, y, u, g⟩ := hP
  rw [z, g] at e
  cases ns with
  | nil => exact absurd h1 (by decide)
  | cons m r =>
    have e' : some (HO.lst [V.int x, V.int y, V.int u]) = some (HO.lst (V.str (Tx m) :: wV r)) := e
    cases e'
theorem trio {S : List Nat → Prop} : ∀ zs : List V, zs.length = 3 → (∀ z ∈ zs, ∃ c, z = V.str (Tx c) ∧ S c) → ∃ a b c, zs = [V.str (Tx a), V.str (Tx b), V.str (Tx c)] ∧ S a ∧ S b ∧ S c
  | [x, y, z], _, h => by
    obtain ⟨a, rfl, ha⟩ := h _ (.head _)
    obtain ⟨b, rfl, hb⟩ := h _ (.tail _ (.head _))
    obtain ⟨c, rfl, hc⟩ := h _ (.tail _ (.tail _ (.head _)))
    exact ⟨a, b, c, rfl, ha, hb, hc⟩
section
variable {P : Program} {w : World} {K : PySem.W.Frag} {mg : Str → Option Value} {base : Heap} {f : Addr} {fd : FuncData}
def spLDeed : Sp := fun vs H Q _ => ∃ (p S d L : Addr) (k n : Nat) (kvs : List (L2.Key × V)) (N ns : List (List Nat)), vs = [.ref p, .ref S, .ref L, nI n] ∧ PoolAt H p ∧ StAt H S d k kvs ∧ H L = some (.lst (wV ns)) ∧ 1 ≤ ns.length ∧ ns.length ≤ 10 ∧ (∀ m ∈ ns, m ∈ N) ∧ Kp N k kvs ∧ NmsOk N ∧ 1 ≤ k ∧ k ≤ 4 ∧ n ≤ 40 ∧
  ∀ ws due k' kvs' d' H' D, RowR N k kvs ws due k' kvs' → SameD p S d H H' → StAt H' S d' k' kvs' → (d' = d ∨ H d' = none) → H' D = some (.tup [.str (Tx (TL.joinL [32] ws)), .str (Tx due)]) → Q (.ref D) H'
theorem sc__law_deed : FnScope ["pool", "state", "names", "most", "kept", "name", "one", "other", "way", "k", "row", "due", "turn"] ["pool", "state", "names", "most"] (defScope s__law_deed) := ⟨rfl, rfl, rfl, by decide +kernel, rfl, by decide +kernel, by decide +kernel⟩
theorem ok__law_deed (T : Txt K mg) (F : FunP K "_law_deed" "_law_deed" s__law_deed f fd) (g__law_draw : Dk P w K mg base CX0 1 "_law_draw" ["pool", "many"] spDraw) (g__law_line : Dk P w K mg base CX0 3 "_law_line" ["pool", "k", "most"] spLine)
    (g_turned : Dk P w K mg base CX0 4 "turned" ["k", "row"] spTurned) : FnOk P w K mg base CX0 5 f fd ["pool", "state", "names", "most"] spLDeed := by
  refine F.ok sc__law_deed (fun vs H Q E h => ?_) (fun cdv A outer s H vs Q E hr h => ?_)
  · obtain ⟨p, S, d, L, k, n, kvs, N, ns, rfl, _⟩ := h
    rfl
  · obtain ⟨p, S, d, L, k, n, kvs, N, ns, rfl, hP, hS, eL, n1, n10, hns, hK, hN, k1, k4, hn, q⟩ := h
    have hu := hu_of hr
    refine ⟨_, PSs.nox (pss_cons (ps_set (i := 4) sc__law_deed.nd rfl (.inl rfl) (pe_dget hu (pv 1) pe_str (fun _ _ => rfl)))
       (pss_cons (ps_asg (pe_lc (own := [("turn", 12)]) (g := (gName 12)) (tt := _) (by rfl) sc__law_deed.nd (pi_range1 rfl T.b_range (pa_cons pe_int pa_nil)) (blkOk_by (own := [("turn", 12)]) (N := ["pool", "state", "names", "most", "kept", "name", "one", "other", "way", "k", "row", "due", "turn"]) (sc := defScope s__law_deed) (by decide +kernel)) (fun _ _ _ _ _ => (pg_name (i := 12) sc__law_deed.nd rfl (.inl rfl))) (fun _ _ _ _ _ => pts_nil) (fun _ _ _ _ _ => (pe_ix (show IxR _ (rIxL K) from ix_list) (pv 2) (g__law_draw.call hr pass0 (pa_cons (pv 0) (pa_cons (pe_callB (show CallR _ (.builtin "len") (rLenL K) from call_len_seq) (by rfl) T.b_len (by decide +kernel) (pa_cons (pv 2) pa_nil)) pa_nil))) (fun _ _ => rfl)))) (pg_unl rfl (pgs_cons (pg_name (i := 5) sc__law_deed.nd rfl (.inl rfl)) (pgs_cons (pg_name (i := 6) sc__law_deed.nd rfl (.inl rfl)) (pgs_cons (pg_name (i := 7) sc__law_deed.nd rfl (.inl rfl)) pgs_nil)))))
       (pss_cons (ps_set (i := 8) sc__law_deed.nd rfl (.inl rfl) (g__law_draw.call hr pass0 (pa_cons (pv 0) (pa_cons pe_int pa_nil))))
       (pss_cons (ps_if (pt_cmpR op_eq (pv 8) pe_int (nomark _))
        (pss_cons (ps_set (i := 9) sc__law_deed.nd rfl (.inl rfl) (pe_op op_add pe_int (g__law_draw.call hr pass0 (pa_cons (pv 0) (pa_cons pe_int pa_nil)))))
       (pss_cons (ps_dput hu (pv 1) pe_str (pv 9) rfl)
       (pss_cons (ps_dput hu (pv 1) pe_str pe_dnewK rfl)
       (pss_one (ps_ret (pe_tup (pa_cons (pe_op op_add_str pe_str (pe_callTy call_str_int (by rfl) T.b_str (by decide +kernel) (pa_cons (pv 9) pa_nil))) (pa_cons pe_str pa_nil))))))))
        pss_nil)
       (pss_cons (ps_if (pt_cmpR op_eq (pv 8) pe_int (nomark _))
        (pss_one (ps_ret (pe_tup (pa_cons (pe_ix (show IxR _ (rIxL K) from ix_list) (pe_lst (pa_cons pe_str (pa_cons pe_str (pa_cons pe_str (pa_cons pe_str pa_nil))))) (g__law_draw.call hr pass0 (pa_cons (pv 0) (pa_cons pe_int pa_nil))) (fun _ _ => rfl)) (pa_cons pe_str pa_nil)))))
        pss_nil)
       (pss_cons (ps_if (PW.pt (pw_or (pt_cmpR op_lt (pv 8) pe_int (nomark _)) (pw_or1 (pt_cmpR (op_eqDict0 hr) (pv 4) pe_dnewK (nomark _)))))
        (pss_cons (ps_set (i := 10) sc__law_deed.nd rfl (.inl rfl) (g__law_line.call hr pass0 (pa_cons (pv 0) (pa_cons (pe_dget hu (pv 1) pe_str (fun _ _ => rfl)) (pa_cons (pv 3) pa_nil)))))
       (pss_cons (ps_dput hu (pv 4) (pv 5) (pv 10) rfl)
       (pss_one (ps_ret (pe_tup (pa_cons (pe_op op_add_str (pe_op op_add_str (pe_op op_add_str pe_str (pv 5)) pe_str) (pv 10)) (pa_cons pe_str pa_nil)))))))
        pss_nil)
       (pss_cons (ps_if (pt_cmpR op_eq (pv 8) pe_int (nomark _))
        (pss_cons (ps_set (i := 11) sc__law_deed.nd rfl (.inl rfl) (pe_ix (show IxR _ (rIxL K) from ix_list) (pe_lst (pa_cons pe_str (pa_cons pe_str pa_nil))) (pe_callTy call_int1 (by rfl) T.b_int (by decide +kernel) (pa_cons (pe_cmp (pc_din hu (pv 6) (pv 4))) pa_nil)) (fun _ _ => rfl)))
       (pss_cons (ps_expr (pe_dpop2 (pv 4) (pv 6) pe_non ⟨rfl, rfl, rfl, rfl⟩))
       (pss_one (ps_ret (pe_tup (pa_cons (pe_op op_add_str pe_str (pv 6)) (pa_cons (pv 11) pa_nil)))))))
        pss_nil)
       (pss_cons (ps_if (pt_cmpR op_lt (pv 8) pe_int (nomark _))
        (pss_cons (ps_if (pt_cmp (pc_dnotin hu (pv 6) (pv 4)))
        (pss_one (ps_ret (pe_tup (pa_cons (pe_op op_add_str (pe_op op_add_str (pe_op op_add_str pe_str (pv 5)) pe_str) (pv 6)) (pa_cons pe_str pa_nil)))))
        pss_nil)
       (pss_cons (ps_dput hu (pv 4) (pv 5) (g_turned.call hr pass0 (pa_cons (pe_dget hu (pv 1) pe_str (fun _ _ => rfl)) (pa_cons (pe_dget hu (pv 4) (pv 6) (fun _ _ => rfl)) pa_nil))) rfl)
       (pss_one (ps_ret (pe_tup (pa_cons (pe_op op_add_str (pe_op op_add_str (pe_op op_add_str pe_str (pv 5)) pe_str) (pv 6)) (pa_cons pe_str pa_nil)))))))
        pss_nil)
       (pss_cons (ps_set (i := 10) sc__law_deed.nd rfl (.inl rfl) (pe_join pe_str (pe_lst (pa_cons pe_str (pa_cons (pv 5) (pa_cons (pv 6) (pa_cons (pv 7) pa_nil)))))))
       (pss_cons (ps_if (PW.pt (pw_or (pt_cmp (pc_dnotin hu (pv 6) (pv 4))) (pw_or1 (pt_cmp (pc_dnotin hu (pv 7) (pv 4))))))
        (pss_one (ps_ret (pe_tup (pa_cons (pv 10) (pa_cons pe_str pa_nil)))))
        pss_nil)
       (pss_cons (ps_if (pt_cmpR op_gt (pe_callB call_len_str (by rfl) T.b_len (by decide +kernel) (pa_cons (pe_op op_add_str (pe_dget hu (pv 4) (pv 6) (fun _ _ => rfl)) (pe_dget hu (pv 4) (pv 7) (fun _ _ => rfl))) pa_nil)) pe_int (nomark _))
        (pss_one (ps_ret (pe_tup (pa_cons (pv 10) (pa_cons pe_str pa_nil)))))
        pss_nil)
       (pss_cons (ps_dput hu (pv 4) (pv 5) (pe_op op_add_str (pe_dget hu (pv 4) (pv 6) (fun _ _ => rfl)) (pe_dget hu (pv 4) (pv 7) (fun _ _ => rfl))) rfl)
       (pss_one (ps_ret (pe_tup (pa_cons (pv 10) (pa_cons pe_str pa_nil))))))))))))))))) , ?_⟩
    refine ⟨_, rfl, S, _, rfl, dget_k (k := kKe) hS.es (stF_ke k d), ?_⟩
    have npL : L ≠ p := names_ne n1 eL hP
    have hkl := hK.len hN
    refine ⟨_, rfl, by decide, by decide, fun D hD => ?_⟩
    refine lcA (n := 3) walk_range (fun z => ∃ m, z = V.str (Tx m) ∧ m ∈ ns) hD hP (by omega) (fun _ _ => trivial) (fun i x H3 H4 hi s3 hP3 hY M hM => ?_) (fun zs H3 s3 hP3 z1 z2 z3 => ?_)
    · obtain ⟨rfl, hx⟩ := hY
      refine ⟨rfl, ?_⟩
      refine ⟨_, rfl, _, rfl, _, rfl, L, _, rfl, .inl (.inl (.inl (s3 _ _ npL eL))), p, ns.length, by show [V.ref p, V.int ((wV ns).length : Int)] = _; rw [wV_len], n1, big_lt (by omega), hP3, fun r2 H5 hr2 s5 hP5 => ?_⟩
      exact ⟨L, _, _, _, rfl, rfl, .inl (.inl ((s3.trans s5) _ _ npL eL)), atI_nat (j := r2) (wV_at hr2), hM _ _ ⟨_, rfl, getD_mem hr2⟩ s5 hP5⟩
    obtain ⟨a, b, c, rfl, ma, mb, mc⟩ := trio zs z1 z2
    have nmN : ∀ m ∈ ns, nmOk m = true ∧ m ∈ N := fun m hm => ⟨hN.nm m (hns m hm), hns m hm⟩
    have wa := nmN a ma
    have wb := nmN b mb
    have wc := nmN c mc
    have nml : ∀ {m : List Nat}, nmOk m = true → m.length ≤ 8 := fun {m} h => by
      unfold nmOk at h
      obtain ⟨h1, _⟩ := Bool.and_eq_true_iff.mp h
      obtain ⟨_, h3⟩ := Bool.and_eq_true_iff.mp h1
      exact of_decide_eq_true h3
    have la := nml wa.1
    have lb := nml wb.1
    have lc := nml wc.1
    have fin : ∀ {ws : List (List Nat)} {due : List Nat} {k' : Nat} {kvs' : List (L2.Key × V)} {d' : Addr} {H1 : Hp} {t u : Str}, RowR N k kvs ws due k' kvs' → SameD p S d H H1 → StAt H1 S d' k' kvs' → (d' = d ∨ H d' = none) → t = Tx (TL.joinL [32] ws) → u = Tx due → ∀ D, H1 D = none → Q (.ref D) (upd H1 D (.tup [V.str t, V.str u])) := fun {ws due k' kvs' d' H1 t u} rr sF st hd' et eu D hD => by
      subst et eu
      exact q ws due k' kvs' d' _ D rr (sF.trans (sameD (sameX (same_upd hD)))) (st.same (same_upd hD)) hd' upd_same
    have eNN : Str.ofString "\tNoName" = Tx (9 :: errW 1) := rfl
    have eNL : Str.ofString "\tNoLine" = Tx (9 :: errW 3) := rfl
    have eNR : Str.ofString "\tNoRow" = Tx (9 :: errW 0) := rfl
    refine ⟨D, _, rfl, .inl (.inl z3), rfl, _, _, rfl, _, _, rfl, _, _, rfl, rfl, ?_⟩
    refine ⟨_, rfl, p, 12, rfl, by decide, big_lt (by decide), hP3, fun way H4 hway s4 hP4 => ?_⟩
    have s04 : SameX p H H4 := s3.trans s4
    have hS4 := hS.sameX hP s04
    refine ⟨_, rfl, rfl, _, rfl, ?_⟩
    refine iteB (fun c1 => ?_) (fun c1 => ?_)
    · -- kinds
      refine ⟨_, rfl, p, 4, rfl, by decide, big_lt (by decide), hP4, fun r H5 hr5 s5 hP5 => ?_⟩
      have ej : ((fun i j => V.int (i + j)) 1 (r : Int) : V) = nI (r + 1) := congrArg V.int (show (1 : Int) + (r : Int) = ((r + 1 : Nat) : Int) by omega)
      refine ⟨_, _, rfl, rfl, ?_⟩
      rw [ej]
      have hS5 := hS4.sameX hP4 s5
      refine ⟨_, rfl, _, rfl, S, _, rfl, DPut.k (k := kKi) hS5.es (by show 2 < sizeLine; decide), ?_⟩
      refine fun d2 hd2 => ?_
      have nS2 : S ≠ d2 := ne_of_none upd_same hd2
      refine ⟨_, rfl, S, _, rfl, DPut.k (k := kKe) ((upd_ne nS2).trans upd_same) (by show 2 < sizeLine; decide), ?_⟩
      have hd5 : H5 d2 = none := by
        rw [upd_ne nS2.symm] at hd2
        exact hd2
      have s05 := s04.trans s5
      obtain ⟨f1, f2, f3⟩ := figs (r + 1)
      have fl := numT_len (n := r + 1) (k := 1) (by decide) (by omega)
      refine ⟨_, rfl, _, rfl, num_ok (small_lt (by omega)), ?_⟩
      rw [tx_num]
      refine ⟨_, _, rfl, rfl, by rw [Tx_len]; exact sl_le (by show 6 + _ ≤ _; omega), by show 2 ≤ sizeLine; decide, fun D2 hD2 => ?_⟩
      refine fin (rr_kinds (j := r + 1) (by omega) (by omega)) (fun x o x1 x2 x3 e => ?_) ⟨upd_same, (upd_ne nS2.symm).trans upd_same, nS2⟩ (.inr (s05.free (hP5.ne hd5) hd5)) ?_ (tx_W "ok").symm D2 hD2
      · rw [upd_ne x2, upd_ne (ne_of_none (s05 x o x1 e) hd5), upd_ne x2]
        exact s05 x o x1 e
      · rw [join2, ← tx_W "kinds ", Tx_app]
        rfl
    refine ⟨_, rfl, rfl, _, rfl, ?_⟩
    refine iteB (fun c2 => ?_) (fun c2 => ?_)
    · -- no row of words
      refine ⟨by show 4 ≤ sizeLine; decide, fun Y hY => ?_⟩
      have eW : [V.str (Str.ofString "names "), V.str (Str.ofString "show"), V.str (Str.ofString "turn a"), V.str (Str.ofString "row a")] = wV (lBAD.map (TL.joinL [32])) := rfl
      have eY : (upd H4 Y (.lst [V.str (Str.ofString "names "), V.str (Str.ofString "show"), V.str (Str.ofString "turn a"), V.str (Str.ofString "row a")])) Y = some (.lst (wV (lBAD.map (TL.joinL [32])))) := upd_same
      have sY := same_upd (o := .lst [V.str (Str.ofString "names "), V.str (Str.ofString "show"), V.str (Str.ofString "turn a"), V.str (Str.ofString "row a")]) hY
      have npY : Y ≠ p := hP4.ne hY
      refine ⟨_, rfl, p, 4, rfl, by decide, big_lt (by decide), hP4.same sY, fun r H5 hr5 s5 hP5 => ?_⟩
      have h4 : r < (lBAD.map (TL.joinL [32])).length := hr5
      refine ⟨Y, _, _, _, rfl, rfl, .inl (.inl (s5 _ _ npY eY)), atI_nat (j := r) (wV_at h4), by show 2 ≤ sizeLine; decide, fun D2 hD2 => ?_⟩
      have hb : lBAD.getD r [] ∈ lBAD := by
        rw [List.getD_eq_getElem?_getD, List.getElem?_eq_getElem (show r < lBAD.length from hr5)]
        exact List.getElem_mem _
      have s05 := (s04.trans (sameX sY)).trans s5
      refine fin (rr_odd hb hK k1 k4) (sameD s05) (hS.sameX hP s05) (.inl rfl) ?_ eNR D2 hD2
      rw [List.getD_eq_getElem?_getD, List.getD_eq_getElem?_getD, List.getElem?_map, List.getElem?_eq_getElem (show r < lBAD.length from hr5)]
      rfl
    refine ⟨_, rfl, _, _, rfl, rfl, _, rfl, ?_⟩
    refine iteB (fun c3 => ?_) (fun c3 => ?_)
    · -- a row
      refine iteT ?_
      refine ⟨_, rfl, _, rfl, S, _, rfl, dget_k (k := kKi) ((hS.sameX hP s04)).es (stF_ki k d), _, rfl, p, k, n, rfl, k1, k4, hn, hP4, fun r H6 hr s6 hP6 => ?_⟩
      have t6 := StAt.sameX (hS.sameX hP s04) hP4 s6
      have s06 : SameX p H H6 := SameX.trans s04 s6
      refine ⟨_, rfl, _, rfl, _, rfl, d, _, rfl, DPut.k (k := kN a) t6.ed (sl_lt (by omega)), ?_⟩
      obtain ⟨c1, c2, c3, c4⟩ := cat3 "row " a r (by decide) (by omega) (by have := rowBy_len hr; omega)
      refine ⟨_, rfl, _, _, rfl, rfl, c1, _, _, rfl, rfl, c2, _, rfl, _, _, rfl, rfl, c3, by show 2 ≤ sizeLine; decide, fun D hD => ?_⟩
      refine fin (rr_row wa.1 wa.2 hr hK k1 k4) ?_ ⟨(upd_ne hS.ne).trans t6.es, upd_same, hS.ne⟩ (.inl rfl) ?_ (tx_W "ok").symm D hD
      · exact (sameD s06).trans fun x o _ _ z e => by rw [upd_ne z]; exact e
      · rw [c4, join3]
        rfl

    refine ⟨_, rfl, fun p2 hp2 => ?_⟩
    have s2 := same_upd (o := .dK []) hp2
    have e2 : (upd H4 p2 (.dK [])) p2 = some (.dK []) := upd_same
    generalize upd H4 p2 (.dK []) = H7 at s2 e2 ⊢
    have s07 : SameX p H H7 := s04.trans (sameX s2)
    have hP7 := hP4.same s2
    have hS7 := hS.sameX hP s07
    refine ⟨d, p2, kvs, rfl, rfl, hS7.ed, e2, _, rfl, ?_⟩
    refine iteB (fun c4 => ?_) (fun c4 => ?_)
    · -- a row
      refine ⟨_, rfl, _, rfl, S, _, rfl, dget_k (k := kKi) ((hS.sameX hP s07)).es (stF_ki k d), _, rfl, p, k, n, rfl, k1, k4, hn, hP7, fun r H6 hr s6 hP6 => ?_⟩
      have t6 := StAt.sameX (hS.sameX hP s07) hP7 s6
      have s06 : SameX p H H6 := SameX.trans s07 s6
      refine ⟨_, rfl, _, rfl, _, rfl, d, _, rfl, DPut.k (k := kN a) t6.ed (sl_lt (by omega)), ?_⟩
      obtain ⟨c1, c2, c3, c4⟩ := cat3 "row " a r (by decide) (by omega) (by have := rowBy_len hr; omega)
      refine ⟨_, rfl, _, _, rfl, rfl, c1, _, _, rfl, rfl, c2, _, rfl, _, _, rfl, rfl, c3, by show 2 ≤ sizeLine; decide, fun D hD => ?_⟩
      refine fin (rr_row wa.1 wa.2 hr hK k1 k4) ?_ ⟨(upd_ne hS.ne).trans t6.es, upd_same, hS.ne⟩ (.inl rfl) ?_ (tx_W "ok").symm D hD
      · exact (sameD s06).trans fun x o _ _ z e => by rw [upd_ne z]; exact e
      · rw [c4, join3]
        rfl

    refine ⟨_, rfl, rfl, _, rfl, ?_⟩
    refine iteB (fun c5 => ?_) (fun c5 => ?_)
    · -- a drop
      refine ⟨by show 2 ≤ sizeLine; decide, fun Y hY => ?_⟩
      have eY : (upd H7 Y (.lst [V.str (Str.ofString "\tNoName"), V.str (Str.ofString "ok")])) Y = some (.lst [V.str (Str.ofString "\tNoName"), V.str (Str.ofString "ok")]) := upd_same
      have sY : Same H7 (upd H7 Y (.lst [V.str (Str.ofString "\tNoName"), V.str (Str.ofString "ok")])) := same_upd hY
      generalize upd H7 Y (.lst [V.str (Str.ofString "\tNoName"), V.str (Str.ofString "ok")]) = H8 at eY sY ⊢
      have s08 : SameX p H H8 := s07.trans (sameX sY)
      have hS8 := hS.sameX hP s08
      obtain ⟨r1, r2⟩ := rr_drop wb.1 hK k1 k4
      have ct : (Str.ofString "drop ").length + (Tx b).length ≤ sizeLine := by
        rw [Tx_len]
        exact sl_le (by show 5 + _ ≤ _; omega)
      have et : Str.ofString "drop " ++ Tx b = Tx (TL.joinL [32] [Wt "drop", b]) := by
        rw [join2, ← tx_W "drop ", Tx_app]
        rfl
      refine ⟨_, rfl, _, rfl, d, _, rfl, DGet.k (k := kN b) hS8.ed, ?_⟩
      rcases hK.row b with ⟨v1, v2⟩ | ⟨r, v1, v2, v3⟩
      · rw [v1]
        refine .inr ⟨_, rfl, Y, _, _, _, rfl, rfl, .inl (.inl eY), atI_nat (j := 0) rfl, ?_⟩
        refine ⟨_, rfl, d, rfl, .inl ⟨_, .inl hS8.ed⟩, _, rfl, kvs, kN b, hS8.ed, rfl, fun v hv => (by rw [v1] at hv; cases hv), fun _ => ?_⟩
        refine ⟨_, rfl, _, _, rfl, rfl, ct, _, rfl, by show 2 ≤ sizeLine; decide, fun D2 hD2 => ?_⟩
        exact fin (r1 v2) (sameD s08) hS8 (.inl rfl) et eNN D2 hD2
      · rw [v1]
        refine .inr ⟨_, rfl, Y, _, _, _, rfl, rfl, .inl (.inl eY), atI_nat (j := 1) rfl, ?_⟩
        refine ⟨_, rfl, d, rfl, .inl ⟨_, .inl hS8.ed⟩, _, rfl, kvs, kN b, hS8.ed, rfl, fun v hv => ?_, fun hv => by rw [v1] at hv; cases hv⟩
        refine ⟨_, rfl, _, _, rfl, rfl, ct, _, rfl, by show 2 ≤ sizeLine; decide, fun D2 hD2 => ?_⟩
        refine fin (r2 r v2) ((sameD s08).trans fun x o _ _ z e => by rw [upd_ne z]; exact e) ⟨(upd_ne hS.ne).trans hS8.es, upd_same, hS.ne⟩ (.inl rfl) et (tx_W "ok").symm D2 hD2
    refine ⟨_, rfl, _, _, rfl, rfl, _, rfl, ?_⟩
    refine iteB (fun c6 => ?_) (fun c6 => ?_)
    · -- a turn
      obtain ⟨r1, r2⟩ := rr_turn wa.1 wb.1 wa.2 hK k1 k4
      obtain ⟨x1, x2, x3, x4⟩ := cat3 "turn " a b (by decide) (by omega) (by omega)
      have et : Str.ofString "turn " ++ Tx a ++ Str.ofString " " ++ Tx b = Tx (TL.joinL [32] [Wt "turn", a, b]) := by
        rw [x4, join3]
        rfl
      refine ⟨_, rfl, _, rfl, d, _, rfl, DGet.k (k := kN b) hS7.ed, _, rfl, ?_⟩
      rcases hK.row b with ⟨v1, v2⟩ | ⟨r, v1, v2, v3⟩
      · rw [v1]
        refine iteT ?_
        refine ⟨_, rfl, _, _, rfl, rfl, x1, _, _, rfl, rfl, x2, _, rfl, _, _, rfl, rfl, x3, by show 2 ≤ sizeLine; decide, fun D2 hD2 => ?_⟩
        exact fin (r1 v2) (sameD s07) hS7 (.inl rfl) et eNN D2 hD2
      · rw [v1]
        refine iteF ?_
        refine ⟨_, rfl, S, _, rfl, dget_k (k := kKi) hS7.es (stF_ki k d), _, rfl, _, rfl, d, _, rfl, dget_k (k := kN b) hS7.ed v1, k, r, rfl, k1, k4, v3, fun H8 s8 => ?_⟩
        have hS8 := hS7.same s8
        refine ⟨_, rfl, _, rfl, d, _, rfl, DPut.k (k := kN a) hS8.ed (sl_lt (by omega)), ?_⟩
        refine ⟨_, rfl, _, _, rfl, rfl, x1, _, _, rfl, rfl, x2, _, rfl, _, _, rfl, rfl, x3, by show 2 ≤ sizeLine; decide, fun D2 hD2 => ?_⟩
        exact fin (r2 r v2) ((sameD (s07.trans (sameX s8))).trans fun x o _ _ z e => by rw [upd_ne z]; exact e) ⟨(upd_ne hS.ne).trans hS8.es, upd_same, hS.ne⟩ (.inl rfl) et (tx_W "ok").symm D2 hD2
    -- behind
    obtain ⟨r1, r2⟩ := rr_behind wa.1 wb.1 wc.1 wa.2 hK k1 k4
    refine ⟨⟨_, rfl⟩, _, rfl, _, rfl, _, rfl, by show 4 ≤ sizeLine; decide, fun Y hY => ?_⟩
    have eY : (upd H7 Y (.lst [V.str (Str.ofString "behind"), V.str (Tx a), V.str (Tx b), V.str (Tx c)])) Y = some (.lst ([Str.ofString "behind", Tx a, Tx b, Tx c].map V.str)) := upd_same
    have sY : Same H7 (upd H7 Y (.lst [V.str (Str.ofString "behind"), V.str (Tx a), V.str (Tx b), V.str (Tx c)])) := same_upd hY
    generalize upd H7 Y (.lst [V.str (Str.ofString "behind"), V.str (Tx a), V.str (Tx b), V.str (Tx c)]) = H8 at eY sY ⊢
    have s08 : SameX p H H8 := s07.trans (sameX sY)
    have hS8 := hS.sameX hP s08
    have hsum := sum_le (m := 8) [Str.ofString "behind", Tx a, Tx b, Tx c] fun z hz => by
      simp only [List.mem_cons, List.mem_nil_iff, or_false] at hz
      rcases hz with rfl | rfl | rfl | rfl
      · decide
      · rw [Tx_len]
        exact la
      · rw [Tx_len]
        exact lb
      · rw [Tx_len]
        exact lc
    have n4 : (Str.ofString " ").length = 1 := rfl
    refine ⟨_, Y, [Str.ofString "behind", Tx a, Tx b, Tx c], rfl, rfl, .inl (.inl (.inl eY)), ?_, ?_⟩
    · rw [n4]
      exact sl_le (by
        have : [Str.ofString "behind", Tx a, Tx b, Tx c].length = 4 := rfl
        omega)
    have et : Txt.join (Str.ofString " ") [Str.ofString "behind", Tx a, Tx b, Tx c] = Tx (TL.joinL [32] [Wt "behind", a, b, c]) := joinT [32] [Wt "behind", a, b, c]
    refine ⟨_, rfl, _, rfl, d, _, rfl, DGet.k (k := kN b) hS8.ed, _, rfl, ?_⟩
    have bad : ∀ {H9 : Hp}, SameX p H H9 → (rowOf kvs b = none ∨ rowOf kvs c = none) → ∀ D2, H9 D2 = none → Q (.ref D2) (upd H9 D2 (.tup [V.str (Txt.join (Str.ofString " ") [Str.ofString "behind", Tx a, Tx b, Tx c]), V.str (Str.ofString "\tNoName")])) := fun {H9} s9 h D2 hD2 => fin (r1 h) (sameD s9) (hS.sameX hP s9) (.inl rfl) et eNN D2 hD2
    rcases hK.row b with ⟨v1, v2⟩ | ⟨r, v1, v2, v3⟩
    · rw [v1]
      refine iteT (iteT ?_)
      exact ⟨_, rfl, by show 2 ≤ sizeLine; decide, bad s08 (.inl v2)⟩
    rw [v1]
    refine iteF ?_
    refine ⟨_, rfl, _, rfl, d, _, rfl, DGet.k (k := kN c) hS8.ed, _, rfl, ?_⟩
    rcases hK.row c with ⟨u1, u2⟩ | ⟨r', u1, u2, u3⟩
    · rw [u1]
      refine iteT ?_
      exact ⟨_, rfl, by show 2 ≤ sizeLine; decide, bad s08 (.inr u2)⟩
    rw [u1]
    refine iteF ?_
    have l1 := rowBy_len v3
    have l2 := rowBy_len u3
    have lcat : (Tx r).length + (Tx r').length ≤ sizeLine := by
      rw [Tx_len, Tx_len]
      exact sl_le (by omega)
    refine ⟨_, rfl, _, rfl, d, _, rfl, dget_k (k := kN b) hS8.ed v1, _, rfl, _, rfl, d, _, rfl, dget_k (k := kN c) hS8.ed u1, _, _, rfl, rfl, lcat, _, rfl, ?_, _, _, rfl, rfl, _, rfl, ?_⟩
    · rw [Tx_app, Tx_len, List.length_append]
      exact sl_le (by omega)
    obtain ⟨b1, b2⟩ := r2 r r' v2 u2
    rw [Tx_app, Tx_len]
    refine iteB (fun c7 => ?_) (fun c7 => ?_)
    · refine ⟨_, rfl, by show 2 ≤ sizeLine; decide, fun D2 hD2 => ?_⟩
      have h7 := of_decide_eq_true c7
      exact fin (b1 (by omega)) (sameD s08) hS8 (.inl rfl) et eNL D2 hD2
    · have h7 := of_decide_eq_false c7
      refine ⟨_, rfl, _, rfl, d, _, rfl, dget_k (k := kN b) hS8.ed v1, _, rfl, _, rfl, d, _, rfl, dget_k (k := kN c) hS8.ed u1, _, _, rfl, rfl, lcat, _, rfl, _, rfl, d, _, rfl, DPut.k (k := kN a) hS8.ed (sl_lt (by omega)), ?_⟩
      refine ⟨_, rfl, by show 2 ≤ sizeLine; decide, fun D2 hD2 => ?_⟩
      rw [Tx_app] at hD2 ⊢
      exact fin (b2 (by omega)) ((sameD s08).trans fun x o _ _ z e => by rw [upd_ne z]; exact e) ⟨(upd_ne hS.ne).trans hS8.es, upd_same, hS.ne⟩ (.inl rfl) et (tx_W "ok").symm D2 hD2
end
end BR
set_option Elab.async false
set_option linter.all false
set_option maxRecDepth 100000
set_option maxHeartbeats 4000000
/-! L12: the law's helpers: asked -/
namespace BR
open PySem PySem.Spec PyProof.Rows L2
theorem inV_NN {l : List Nat} : (if false = true then !inV (V.str (Tx l)) [V.str (Str.ofString "nth"), V.str (Str.ofString "number")] else inV (V.str (Tx l)) [V.str (Str.ofString "nth"), V.str (Str.ofString "number")]) = decide (l = Wt "nth" ∨ l = Wt "number") := by
  rw [if_neg (by decide)]
  show ((eqV (V.str (Str.ofString "nth")) (V.str (Tx l))) || ((eqV (V.str (Str.ofString "number")) (V.str (Tx l))) || false)) = _
  rw [eqV_W, eqV_W, Bool.or_false, Bool.decide_or]
/-- the names, sorted, as lists of signs -/
def nmL (kvs : List (L2.Key × V)) : List (List Nat) := (nmS kvs).map fun z => z.cps.toList
theorem nmL_tx (kvs : List (L2.Key × V)) : (nmL kvs).map Tx = nmS kvs := by
  unfold nmL
  rw [List.map_map]
  have : (Tx ∘ fun z : Str => z.cps.toList) = id := funext fun z => Tx_eta z
  rw [this, List.map_id]
theorem join_9 : ∀ ws : List (List Nat), (∀ w ∈ ws, 9 ∉ w) → 9 ∉ TL.joinL [32] ws
  | [], _ => fun h => by cases h
  | [a], h => h a List.mem_cons_self
  | a :: b :: r, h => by
    have h1 := h a List.mem_cons_self
    have h2 := join_9 (b :: r) fun w hw => h w (List.mem_cons_of_mem _ hw)
    show 9 ∉ a ++ ([32] ++ TL.joinL [32] (b :: r))
    intro z
    rcases List.mem_append.mp z with z | z
    · exact h1 z
    rcases List.mem_append.mp z with z | z
    · exact absurd (List.mem_singleton.mp z) (by decide)
    · exact h2 z
theorem nmL_ok {N : List (List Nat)} {k : Nat} {kvs : List (L2.Key × V)} (h : Kp N k kvs) (hN : NmsOk N) : (nmL kvs).length ≤ 20 ∧ ∀ m ∈ nmL kvs, nmOk m = true := by
  refine ⟨by unfold nmL; rw [List.length_map]; exact (nmS_len h hN).1, fun m hm => ?_⟩
  obtain ⟨S, hS, hs⟩ := h.keys
  obtain ⟨ms, m1, m2, m3⟩ := hS.keysS
  obtain ⟨z, hz, rfl⟩ := List.mem_map.mp hm
  have hp := nmS_perm kvs
  rw [m2] at hp
  obtain ⟨x, hx, rfl⟩ := List.mem_map.mp (hp.mem_iff.mp hz)
  rw [Tx_cps]
  exact hN.nm x (hs x ((m3 x).mp hx))
theorem nm_9 {m : List Nat} (h : nmOk m = true) : 9 ∉ m := fun z => by
  unfold nmOk at h
  obtain ⟨_, h3⟩ := Bool.and_eq_true_iff.mp h
  exact (let_ok (of_decide_eq_true (List.all_eq_true.mp h3 9 z))).2.2 rfl
def dueN (kvs : List (L2.Key × V)) : List Nat := if kvs.isEmpty then Wt "none" else TL.joinL [32] (nmL kvs)
theorem rr_namesN {N : List (List Nat)} {k : Nat} {kvs : List (L2.Key × V)} (h : Kp N k kvs) (hN : NmsOk N) (k1 : 1 ≤ k) (k4 : k ≤ 4) : RowR N k kvs [Wt "names"] (dueN kvs) k kvs := by
  obtain ⟨a1, a2⟩ := nmL_ok h hN
  have hl := joinL_len (nmL kvs) fun w hw => (nm_word (a2 w hw)).2.2
  have h9 := join_9 (nmL kvs) fun w hw => nm_9 (a2 w hw)
  refine rr_names h hN k1 k4 (dueN kvs) ?_ ?_ ?_
  · unfold dueN
    cases kvs.isEmpty
    · show Tx (TL.joinL [32] (nmL kvs)) = Txt.join (Tx [32]) (nmS kvs)
      rw [← nmL_tx kvs, joinT]
    · exact tx_W "none"
  · unfold dueN
    split
    · decide
    · omega
  · unfold dueN
    split
    · decide
    · exact h9
/-- sorted(kept): the names -/
theorem keys_N {N : List (List Nat)} {k : Nat} {kvs : List (L2.Key × V)} (h : Kp N k kvs) (hN : NmsOk N) : ∃ ks : List Str, kvs.map (·.1) = ks.map Sum.inr ∧ ks.length < 64 ∧ ∀ ys : List Str, ys.Perm ks → sortedS ys = true → ys = nmS kvs := by
  obtain ⟨S, hS, hs⟩ := h.keys
  obtain ⟨ms, m1, m2, m3⟩ := hS.keysS
  have hl := h.len hN
  have hml : ms.length = kvs.length := by
    have := congrArg List.length m1
    simpa using this.symm
  refine ⟨ms.map Tx, ?_, by rw [List.length_map]; omega, fun ys h1 h2 => sorted_one h1 (by rw [← m2]; exact nmS_perm kvs) h2 (nmS_sorted kvs)⟩
  rw [m1, List.map_map]
  rfl
theorem row_pair {k : Nat} (k1 : 1 ≤ k) (k4 : k ≤ 4) : rowBy k [40, 41] = true := by
  have h1 : ∀ k, k ≤ 4 → 1 ≤ k → rowBy k [40, 41] = true := by decide
  exact h1 k k4 k1
section
variable {P : Program} {w : World} {K : PySem.W.Frag} {mg : Str → Option Value} {base : Heap} {f : Addr} {fd : FuncData}
def spLAsk : Sp := fun vs H Q _ => ∃ (p S d L : Addr) (k : Nat) (kvs : List (L2.Key × V)) (N ns : List (List Nat)), vs = [.ref p, .ref S, .ref L] ∧ PoolAt H p ∧ StAt H S d k kvs ∧ H L = some (.lst (wV ns)) ∧ 1 ≤ ns.length ∧ ns.length ≤ 10 ∧ (∀ m ∈ ns, m ∈ N) ∧ Kp N k kvs ∧ NmsOk N ∧ 1 ≤ k ∧ k ≤ 4 ∧
  ∀ ws due H' D, RowR N k kvs ws due k kvs → SameX p H H' → H' D = some (.tup [.str (Tx (TL.joinL [32] ws)), .str (Tx due)]) → Q (.ref D) H'
theorem sc__law_asked : FnScope ["pool", "state", "names", "kept", "name", "head", "more", "row"] ["pool", "state", "names"] (defScope s__law_asked) := ⟨rfl, rfl, rfl, by decide +kernel, rfl, by decide +kernel, by decide +kernel⟩
theorem ok__law_asked (T : Txt K mg) (F : FunP K "_law_asked" "_law_asked" s__law_asked f fd) (g__law_draw : Dk P w K mg base CX0 1 "_law_draw" ["pool", "many"] spDraw) (g__law_question : Dk P w K mg base (L2.CX P w) 7 "_law_question" ["pool", "k", "row"] spQuestion)
    (g__law_due : Dk P w K mg base CX0 8 "_law_due" ["k", "head", "row", "more"] (spDue K)) : FnOk P w K mg base (L2.CX P w) 9 f fd ["pool", "state", "names"] spLAsk := by
  refine F.ok sc__law_asked (fun vs H Q E h => ?_) (fun cdv A outer s H vs Q E hr h => ?_)
  · obtain ⟨p, S, d, L, k, kvs, N, ns, rfl, _⟩ := h
    rfl
  · obtain ⟨p, S, d, L, k, kvs, N, ns, rfl, hP, hS, eL, n1, n10, hns, hK, hN, k1, k4, q⟩ := h
    have hu := hu_of hr
    refine ⟨_, (pss_cons (ps_set (i := 3) sc__law_asked.nd rfl (.inl rfl) (pe_dget hu (pv 1) pe_str (fun _ _ => rfl)))
       (pss_cons (ps_set (i := 4) sc__law_asked.nd rfl (.inl rfl) (pe_ix (show IxR _ (rIxL K) from ix_list) (pv 2) (g__law_draw.call hr pass0 (pa_cons (pv 0) (pa_cons (pe_callB call_len_seq (by rfl) T.b_len (by decide +kernel) (pa_cons (pv 2) pa_nil)) pa_nil))) (fun _ _ => rfl)))
       (pss_cons (ps_if (pt_cmpR op_eq (g__law_draw.call hr pass0 (pa_cons (pv 0) (pa_cons pe_int pa_nil))) pe_int (nomark _))
        (pss_one (ps_ret (pe_tup (pa_cons pe_str (pa_cons (pe_ifExp (pt_cmpR (op_neDict0 hr) (pv 3) pe_dnewK (nomark _)) (pe_join pe_str (pe_callB (call_sortedD rfl) (by rfl) T.b_sorted (by decide +kernel) (pa_cons (pv 3) pa_nil))) pe_str) pa_nil)))))
        pss_nil)
       (pss_cons (ps_asg (g__law_question.call hr (passes_call (takes_of rfl rfl rfl rfl) (fun _ _ _ _ h => h)) (pa_cons (pv 0) (pa_cons (pe_dget hu (pv 1) pe_str (fun _ _ => rfl)) (pa_cons (pe_dget2 hu (pv 3) (pv 4) pe_str ⟨rfl, rfl, rfl, rfl⟩) pa_nil)))) (pg_tup (by rfl) (pgs_cons (pg_name (i := 5) sc__law_asked.nd rfl (.inl rfl)) (pgs_cons (pg_name (i := 6) sc__law_asked.nd rfl (.inl rfl)) pgs_nil))))
       (pss_cons (ps_set (i := 7) sc__law_asked.nd rfl (.inl rfl) (pe_op op_add_str (pe_op op_add_str (pv 5) pe_str) (pv 4)))
       (pss_cons (ps_if (pt_cmpR op_in_seq (pv 5) (pe_lst (pa_cons pe_str (pa_cons pe_str pa_nil))) rfl)
        (pss_one (ps_set (i := 7) sc__law_asked.nd rfl (.inl rfl) (pe_op op_add_str (pe_op op_add_str (pv 7) pe_str) (pv 6))))
        pss_nil)
       (pss_cons (ps_if (pt_cmp (pc_dnotin hu (pv 4) (pv 3)))
        (pss_one (ps_ret (pe_tup (pa_cons (pv 7) (pa_cons pe_str pa_nil)))))
        pss_nil)
       (pss_one (ps_ret (pe_tup (pa_cons (pv 7) (pa_cons (g__law_due.call hr pass0 (pa_cons (pe_dget hu (pv 1) pe_str (fun _ _ => rfl)) (pa_cons (pv 5) (pa_cons (pe_dget hu (pv 3) (pv 4) (fun _ _ => rfl)) (pa_cons (pv 6) pa_nil))))) pa_nil)))))))))))) , ?_⟩
    refine ⟨_, rfl, S, _, rfl, dget_k (k := kKe) hS.es (stF_ke k d), ?_⟩
    have npL : L ≠ p := names_ne n1 eL hP
    refine ⟨_, rfl, _, rfl, _, rfl, L, _, rfl, .inl (.inl (.inl eL)), p, ns.length, by show [V.ref p, V.int ((wV ns).length : Int)] = _; rw [wV_len], n1, big_lt (by omega), hP, fun r1 H1 hr1 s1 hP1 => ?_⟩
    refine ⟨L, _, _, _, rfl, rfl, .inl (.inl (s1 _ _ npL eL)), atI_nat (j := r1) (wV_at hr1), ?_⟩
    have ha := getD_mem hr1
    generalize ns.getD r1 [] = a at ha ⊢
    have na := hN.nm a (hns a ha)
    have la : a.length ≤ 8 := by
      unfold nmOk at na
      obtain ⟨h1, _⟩ := Bool.and_eq_true_iff.mp na
      obtain ⟨_, h3⟩ := Bool.and_eq_true_iff.mp h1
      exact of_decide_eq_true h3
    have fin : ∀ {ws : List (List Nat)} {due : List Nat} {H1 : Hp} {t u : Str}, RowR N k kvs ws due k kvs → SameX p H H1 → t = Tx (TL.joinL [32] ws) → u = Tx due → ∀ D, H1 D = none → Q (.ref D) (upd H1 D (.tup [V.str t, V.str u])) := fun {ws due H1 t u} rr sF et eu D hD => by
      subst et eu
      exact q ws due _ D rr (sF.trans (sameX (same_upd hD))) upd_same
    refine ⟨_, rfl, p, 10, rfl, by decide, big_lt (by decide), hP1, fun r2 H2 hr2 s2 hP2 => ⟨rfl, _, rfl, ?_⟩⟩
    have s02 := s1.trans s2
    have hS2 := hS.sameX hP s02
    refine iteB (fun c1 => ?_) (fun c1 => ?_)
    · -- names
      have rr := rr_namesN hK hN k1 k4
      refine ⟨_, rfl, fun p2 hp2 => ?_⟩
      have e2 : (upd H2 p2 (.dK [])) p2 = some (.dK []) := upd_same
      have t2 : Same H2 (upd H2 p2 (.dK [])) := same_upd hp2
      generalize upd H2 p2 (.dK []) = H3 at t2 e2 ⊢
      have s03 := s02.trans (sameX t2)
      have hS3 := hS.sameX hP s03
      refine ⟨d, p2, kvs, rfl, rfl, hS3.ed, e2, _, rfl, ?_⟩
      cases ek : kvs.isEmpty with
      | true =>
        refine iteF ⟨by show 2 ≤ sizeLine; decide, fun D hD => ?_⟩
        refine fin rr s03 rfl ?_ D hD
        unfold dueN
        rw [ek]
        exact (tx_W "none").symm
      | false =>
        obtain ⟨ks, q1, q2, q3⟩ := keys_N hK hN
        obtain ⟨n1, n2⟩ := nmS_len hK hN
        have n3 := sum_le (nmS kvs) n2
        have n4 : (Str.ofString " ").length = 1 := rfl
        refine iteT ⟨⟨_, rfl⟩, _, rfl, d, kvs, ks, rfl, .inl hS3.ed, q1, q2, fun ys p3 g1 g2 hp3 => ?_⟩
        rw [q3 ys g1 g2]
        refine ⟨_, p3, nmS kvs, rfl, rfl, .inl (.inl (.inl upd_same)), by rw [n4]; exact sl_le (by omega), by show 2 ≤ sizeLine; decide, fun D hD => ?_⟩
        refine fin rr (s03.trans (sameX (same_upd hp3))) rfl ?_ D hD
        unfold dueN
        rw [ek]
        show Txt.join (Tx [32]) (nmS kvs) = Tx (TL.joinL [32] (nmL kvs))
        rw [← joinT, nmL_tx]
    -- a question
    have base : ∀ {hd more : List Nat} (hq : QOk hd more), (Tx hd).length + (Str.ofString " ").length ≤ sizeLine ∧ (Tx hd ++ Str.ofString " ").length + (Tx a).length ≤ sizeLine ∧ (Tx hd ++ Str.ofString " " ++ Tx a).length + (Str.ofString " ").length ≤ sizeLine ∧
        (more.length ≤ 1000 → (Tx hd ++ Str.ofString " " ++ Tx a ++ Str.ofString " ").length + (Tx more).length ≤ sizeLine) ∧ Tx hd ++ Str.ofString " " ++ Tx a = Tx (hd ++ [32] ++ a) ∧ Tx hd ++ Str.ofString " " ++ Tx a ++ Str.ofString " " ++ Tx more = Tx (hd ++ [32] ++ a ++ [32] ++ more) := fun {hd more} hq => by
      have h10 : hd.length ≤ 10 := by
        have h1 : ∀ h ∈ lHEADS, h.length ≤ 10 := by decide
        exact h1 hd hq.head
      have e1 : Str.ofString " " = Tx [32] := rfl
      rw [e1, Tx_app, Tx_app, Tx_app, Tx_app, Tx_len, Tx_len, Tx_len, Tx_len, Tx_len, Tx_len, Tx_len]
      simp only [List.length_append, List.length_singleton]
      exact ⟨sl_le (by omega), sl_le (by omega), sl_le (by omega), fun h => sl_le (by omega), trivial, trivial⟩
    refine ⟨_, rfl, _, rfl, S, _, rfl, dget_k (k := kKi) hS2.es (stF_ki k d), _, rfl, d, rfl, .inl ⟨_, .inl hS2.ed⟩, _, rfl, _, DGet.k (k := kN a) hS2.ed, ?_⟩

    rcases hK.row a with ⟨v1, v2⟩ | ⟨l, v1, v2, v3⟩
    · rw [v1]
      refine ⟨p, k, [40, 41], rfl, k1, k4, row_pair k1 k4, hP2, fun hd more H3 T0 hq s3 hP3 hn3 e3 => ⟨T0, _, rfl, SqT.of e3, rfl, _, _, rfl, _, _, rfl, rfl, ?_⟩⟩
      obtain ⟨b1, b2, b3, b4, b5, b6⟩ := base hq
      obtain ⟨a1, a2⟩ := rr_ask hq na hK k1 k4
      have s03 := s02.trans s3
      refine ⟨_, rfl, _, _, rfl, rfl, b1, _, rfl, _, _, rfl, rfl, b2, ?_⟩
      refine ⟨_, rfl, by show 2 ≤ sizeLine; decide, fun Z hZ => ?_⟩
      have eZ : (upd H3 Z (.lst [V.str (Str.ofString "nth"), V.str (Str.ofString "number")])) Z = some (.lst [V.str (Str.ofString "nth"), V.str (Str.ofString "number")]) := upd_same
      have sZ : Same H3 (upd H3 Z (.lst [V.str (Str.ofString "nth"), V.str (Str.ofString "number")])) := same_upd hZ
      generalize upd H3 Z (.lst [V.str (Str.ofString "nth"), V.str (Str.ofString "number")]) = H4 at eZ sZ ⊢
      have s04 := s03.trans (sameX sZ)
      have hS4 := hS.sameX hP s04
      refine ⟨_, _, rfl, .inl (.inl (.inl eZ)), rfl, rfl, _, rfl, ?_⟩
      rw [inV_NN]
      refine iteB (fun c2 => ?_) (fun c2 => ?_)
      · have c2' := of_decide_eq_true c2
        have m1000 : more.length ≤ 1000 := by
          rcases c2' with z | z
          · exact (num_word (hq.num z)).2.2
          · exact (hq.as z).2.2
        have et : Tx hd ++ Str.ofString " " ++ Tx a ++ Str.ofString " " ++ Tx more = Tx (TL.joinL [32] (askW hd a more)) := by
          unfold askW
          rw [if_pos c2', b6, join3]
        refine ⟨_, rfl, _, _, rfl, rfl, b3, _, rfl, _, _, rfl, rfl, b4 m1000, ?_⟩
        refine ⟨_, rfl, _, rfl, d, _, rfl, DGet.k (k := kN a) hS4.ed, _, rfl, ?_⟩
        rw [v1]
        refine iteT ⟨_, rfl, by show 2 ≤ sizeLine; decide, fun D hD => ?_⟩
        exact fin (a1 v2) s04 et rfl D hD

      · have c2' := of_decide_eq_false c2
        have et : Tx hd ++ Str.ofString " " ++ Tx a = Tx (TL.joinL [32] (askW hd a more)) := by
          unfold askW
          rw [if_neg c2', b5, join2]
        refine ⟨_, rfl, _, rfl, d, _, rfl, DGet.k (k := kN a) hS4.ed, _, rfl, ?_⟩
        rw [v1]
        refine iteT ⟨_, rfl, by show 2 ≤ sizeLine; decide, fun D hD => ?_⟩
        exact fin (a1 v2) s04 et rfl D hD
    · rw [v1]
      refine ⟨p, k, l, rfl, k1, k4, v3, hP2, fun hd more H3 T0 hq s3 hP3 hn3 e3 => ⟨T0, _, rfl, SqT.of e3, rfl, _, _, rfl, _, _, rfl, rfl, ?_⟩⟩
      obtain ⟨b1, b2, b3, b4, b5, b6⟩ := base hq
      obtain ⟨a1, a2⟩ := rr_ask hq na hK k1 k4
      have s03 := s02.trans s3
      refine ⟨_, rfl, _, _, rfl, rfl, b1, _, rfl, _, _, rfl, rfl, b2, ?_⟩
      refine ⟨_, rfl, by show 2 ≤ sizeLine; decide, fun Z hZ => ?_⟩
      have eZ : (upd H3 Z (.lst [V.str (Str.ofString "nth"), V.str (Str.ofString "number")])) Z = some (.lst [V.str (Str.ofString "nth"), V.str (Str.ofString "number")]) := upd_same
      have sZ : Same H3 (upd H3 Z (.lst [V.str (Str.ofString "nth"), V.str (Str.ofString "number")])) := same_upd hZ
      generalize upd H3 Z (.lst [V.str (Str.ofString "nth"), V.str (Str.ofString "number")]) = H4 at eZ sZ ⊢
      have s04 := s03.trans (sameX sZ)
      have hS4 := hS.sameX hP s04
      refine ⟨_, _, rfl, .inl (.inl (.inl eZ)), rfl, rfl, _, rfl, ?_⟩
      rw [inV_NN]
      refine iteB (fun c2 => ?_) (fun c2 => ?_)
      · have c2' := of_decide_eq_true c2
        have m1000 : more.length ≤ 1000 := by
          rcases c2' with z | z
          · exact (num_word (hq.num z)).2.2
          · exact (hq.as z).2.2
        have et : Tx hd ++ Str.ofString " " ++ Tx a ++ Str.ofString " " ++ Tx more = Tx (TL.joinL [32] (askW hd a more)) := by
          unfold askW
          rw [if_pos c2', b6, join3]
        refine ⟨_, rfl, _, _, rfl, rfl, b3, _, rfl, _, _, rfl, rfl, b4 m1000, ?_⟩
        refine ⟨_, rfl, _, rfl, d, _, rfl, DGet.k (k := kN a) hS4.ed, _, rfl, ?_⟩
        rw [v1]
        refine iteF ⟨_, rfl, _, rfl, S, _, rfl, dget_k (k := kKi) hS4.es (stF_ki k d), _, rfl, _, rfl, _, rfl, d, _, rfl, dget_k (k := kN a) hS4.ed v1, _, rfl, k, hd, l, more, rfl, ⟨k1, k4, v3, hq.head, hq.num, fun z => ⟨(hq.as z).1, by have := (hq.as z).2.2; omega⟩⟩, fun H5 s5 => ⟨by show 2 ≤ sizeLine; decide, fun D hD => ?_⟩⟩
        exact fin (a2 l v2) (s04.trans (sameX s5)) et rfl D hD

      · have c2' := of_decide_eq_false c2
        have et : Tx hd ++ Str.ofString " " ++ Tx a = Tx (TL.joinL [32] (askW hd a more)) := by
          unfold askW
          rw [if_neg c2', b5, join2]
        refine ⟨_, rfl, _, rfl, d, _, rfl, DGet.k (k := kN a) hS4.ed, _, rfl, ?_⟩
        rw [v1]
        refine iteF ⟨_, rfl, _, rfl, S, _, rfl, dget_k (k := kKi) hS4.es (stF_ki k d), _, rfl, _, rfl, _, rfl, d, _, rfl, dget_k (k := kN a) hS4.ed v1, _, rfl, k, hd, l, more, rfl, ⟨k1, k4, v3, hq.head, hq.num, fun z => ⟨(hq.as z).1, by have := (hq.as z).2.2; omega⟩⟩, fun H5 s5 => ⟨by show 2 ≤ sizeLine; decide, fun D hD => ?_⟩⟩
        exact fin (a2 l v2) (s04.trans (sameX s5)) et rfl D hD
end
end BR
set_option Elab.async false
set_option linter.all false
set_option maxRecDepth 100000
set_option maxHeartbeats 4000000
/-! L13: the law's helpers: end -/
namespace BR
open PySem PySem.Spec PyProof.Rows L2
theorem passL {P : Program} {w : World} {X : Cx} : Passes (L2.CX P w) X E0 := fun _ _ _ _ _ _ _ ⟨_, _, _, _, _, _, _, _, _, _, _, _, z⟩ => (show False from z).elim
/-- a list of texts against its like -/
def tD (ws : List (List Nat)) : List PyData := ws.map fun w => .str (Tx w)
theorem tD_eq : ∀ ws : List (List Nat), PyData.eqvAll (tD ws) (tD ws) = true
  | [] => by simp [tD, PyData.eqvAll]
  | w :: r => by
    have ih := tD_eq r
    unfold tD at ih ⊢
    rw [List.map_cons]
    simp [PyData.eqvAll, PyData.eqv, ih]
theorem tD_lay : ∀ ws : List (List Nat), (∀ w ∈ ws, As w) → PyData.canLayAll0 (tD ws) = true ∧ PyData.depthAll (tD ws) = 0
  | [], _ => by simp [tD, PyData.canLayAll0, PyData.depthAll]
  | w :: r, h => by
    obtain ⟨h1, h2⟩ := tD_lay r fun y hy => h y (List.mem_cons_of_mem _ hy)
    have h3 := as_ok (h w List.mem_cons_self)
    unfold tD at h1 h2 ⊢
    rw [List.map_cons]
    simp [PyData.canLayAll0, PyData.depthAll, PyData.depth, h1, h2, h3]
theorem tD_at {K : PySem.W.Frag} {H : Hp} : ∀ ws : List (List Nat), DpAll K H (wV ws) (tD ws)
  | [] => .nil
  | w :: r => .cons (.str _) (tD_at r)
theorem neD_like {K : PySem.W.Frag} {H : Hp} {a b : Addr} {ws : List (List Nat)} {Q : VK} (ha : SqL K H a (wV ws)) (hb : SqL K H b (wV ws)) (hx : ∀ w ∈ ws, As w) (q : Q (.bl false) H) : rNeD K (.ref a) (.ref b) H Q := by
  obtain ⟨h1, h2⟩ := tD_lay ws hx
  have h3 : SeqAt.shaped (.list (tD ws)) = true := by simp [SeqAt.shaped, PyData.canLay0, PyData.depth, h1, h2]
  refine ⟨.list (tD ws), .list (tD ws), .lst ha (tD_at ws), .lst hb (tD_at ws), h3, h3, ?_⟩
  have e : PyData.eqv (.list (tD ws)) (.list (tD ws)) = true := by
    show PyData.eqvAll (tD ws) (tD ws) = true
    exact tD_eq ws
  rw [e]
  exact q
theorem nmL_wV (kvs : List (L2.Key × V)) : (nmS kvs).map V.str = wV (nmL kvs) := by
  unfold wV
  rw [← nmL_tx kvs, List.map_map]
  rfl
theorem say_show {k : Nat} {kvs : List (L2.Key × V)} {n r : List Nat} (hn : nmOk n = true) (h : rowOf kvs n = some r) : sayM k kvs [Wt "show", n] = .ok (Tx (shw r), k, kvs) ∧ OrdOk [Wt "show", n] := by
  have hp : prt [Wt "show", n] = some [Wt "show", n] := prt_w (by decide) rfl fun i hi => by
    have : i < 1 := hi
    match i, this with
    | 0, _ => exact ok_nm hn
  refine ⟨?_, ord_of (by simp) (two (hd_word (by decide)) (nm_word hn)) (by show 2 ≤ 10; decide) (.inr ⟨(Wt "show", Wt "a"), by decide, rfl⟩) (head_no (by decide))⟩
  rw [say_ask hp (by show isDeed (Wt "show") = false; decide) (by show Wt "show" ≠ Wt "names"; decide)]
  have e : askM k kvs [Wt "show", n] = .ok (shw r) := by
    unfold askM
    have hc : ¬ ([Wt "show", n].getD 0 [] = Wt "number" ∧ rowBy k ([Wt "show", n].getD 2 []) = false) := fun z => absurd z.1 (by show ¬ (Wt "show" = Wt "number"); decide)
    rw [show [Wt "show", n].getD 1 [] = n from rfl, h]
    show (if [Wt "show", n].getD 0 [] = Wt "number" ∧ rowBy k ([Wt "show", n].getD 2 []) = false then _ else tellM k ([Wt "show", n].getD 0 []) r ([Wt "show", n].getD 2 [])) = _
    rw [if_neg hc]
    unfold tellM
    rw [if_pos (show [Wt "show", n].getD 0 [] = Wt "show" from rfl)]
  rw [e]
theorem valV_in {κ : Type} [DecidableEq κ] {j : κ} {v : V} {kvs : List (κ × V)} (h : (j, v) ∈ kvs) : valV kvs j ≠ none := fun z => by
  unfold valV at z
  exact List.find?_eq_none.mp (Option.map_eq_none_iff.mp z) _ h (decide_eq_true rfl)
/-- a key is a name with a row -/
theorem Kp.at {N : List (List Nat)} {k : Nat} {kvs : List (L2.Key × V)} (h : Kp N k kvs) (hN : NmsOk N) {κ : L2.Key} {v : V} (hm : (κ, v) ∈ kvs) : ∃ n r, κ = kN n ∧ nmOk n = true ∧ valV kvs (kN n) = some (.str (Tx r)) ∧ rowOf kvs n = some r ∧ rowBy k r = true := by
  obtain ⟨S, hS, hs⟩ := h.keys
  obtain ⟨ms, m1, m2, m3⟩ := hS.keysS
  have h1 : κ ∈ kvs.map (·.1) := List.mem_map.mpr ⟨_, hm, rfl⟩
  rw [m1] at h1
  obtain ⟨n, hn, rfl⟩ := List.mem_map.mp h1
  rcases h.row n with ⟨v1, _⟩ | ⟨r, v1, v2, v3⟩
  · exact absurd v1 (valV_in hm)
  · exact ⟨n, r, rfl, hN.nm n (hs n ((m3 n).mp hn)), v1, v2, v3⟩
section
variable {P : Program} {w : World} {K : PySem.W.Frag} {mg : Str → Option Value} {base : Heap} {f : Addr} {fd : FuncData}
def spEnd (C : Addr) : Sp := fun vs H Q _ => ∃ (b dx d d2 : Addr) (k : Nat) (kvs : List (L2.Key × V)) (N : List (List Nat)), vs = [.ref b, .ref d2] ∧ DeskAt H C b dx d k kvs ∧ H d2 = some (.dK kvs) ∧ d2 ≠ d ∧ Kp N k kvs ∧ NmsOk N ∧ 1 ≤ k ∧ k ≤ 4 ∧ ∀ H', SameB b d H H' → Q (.bl true) H'
theorem sc__law_end : FnScope ["desk", "kept", "name"] ["desk", "kept"] (defScope s__law_end) := ⟨rfl, rfl, rfl, by decide +kernel, rfl, by decide +kernel, by decide +kernel⟩
theorem ok__law_end (T : Txt K mg) (F : FunP K "_law_end" "_law_end" s__law_end f fd) (g_Desk_names : Dm P w K mg base CX0 1 (cA K "Desk") "names" ["self"] (spDNames (cA K "Desk"))) (g_Desk_say : Dm P w K mg base (L2.CX P w) 9 (cA K "Desk") "say" ["self", "row"] (spSay K (cA K "Desk")))
    (g__law_shown : Dk P w K mg base CX0 1 "_law_shown" ["row"] spLShown) : FnOk P w K mg base (L2.CX P w) 10 f fd ["desk", "kept"] (spEnd (cA K "Desk")) := by
  refine F.ok sc__law_end (fun vs H Q E h => ?_) (fun cdv A outer s H vs Q E hr h => ?_)
  · obtain ⟨b, dx, d, d2, k, kvs, N, rfl, _⟩ := h
    rfl
  · obtain ⟨b, dx, d, d2, k, kvs, N, rfl, hD, e2, n2, hK, hN, k1, k4, q⟩ := h
    have hu := hu_of hr
    refine ⟨_, (pss_cons (ps_if (pt_cmpR (op_neD hr.units) (g_Desk_names.meth0 hr pass0 (pv 0)) (pe_callB (call_sortedD rfl) (by rfl) T.b_sorted (by decide +kernel) (pa_cons (pv 1) pa_nil)) (nomark _))
        (pss_one (ps_ret pe_bl))
        pss_nil)
       (pss_one (ps_lock (ps_ret (pe_cmpR (op_eqD hr.units) (pe_lc (own := [("name", 2)]) (g := (gName 2)) (tt := _) (by rfl) sc__law_end.nd (pi_keys (pv 1)) (blkOk_by (own := [("name", 2)]) (N := ["desk", "kept", "name"]) (sc := defScope s__law_end) (by decide +kernel)) (fun _ _ _ _ _ => (pg_name (i := 2) sc__law_end.nd rfl (.inl rfl))) (fun _ _ _ _ _ => pts_one (pt_cmpR op_ne (g_Desk_say.meth hr passL (pv 0) (pa_cons (pe_op op_add_str pe_str (pv 2)) pa_nil)) (g__law_shown.call hr pass0 (pa_cons (pe_dget hu (pv 1) (pv 2) (fun _ _ => rfl)) pa_nil)) (nomark _))) (fun _ _ _ _ _ => (pv 2))) (pe_lst pa_nil) (nomark _)))))) , ?_⟩
    have nb2 : d2 ≠ b := ne_of e2 hD.eb (by intro z; cases z)
    obtain ⟨ks, q1, q2, q3⟩ := keys_N hK hN
    obtain ⟨a1, a2⟩ := nmL_ok hK hN
    refine ⟨_, rfl, b, dx, _, rfl, hD.eb, rfl, b, dx, d, k, kvs, N, rfl, hD, hK, hN, fun H1 D1 s1 hD1 eD1 => ?_⟩
    have e21 := s1 _ _ e2
    refine ⟨_, rfl, d2, kvs, ks, rfl, .inl e21, q1, q2, fun ys p3 g1 g2 hp3 => ?_⟩
    rw [q3 ys g1 g2, nmL_wV]
    rw [nmL_wV] at eD1
    have s3 : Same H1 (upd H1 p3 (.lst (wV (nmL kvs)))) := same_upd hp3
    have e3 : (upd H1 p3 (.lst (wV (nmL kvs)))) p3 = some (.lst (wV (nmL kvs))) := upd_same
    generalize upd H1 p3 (.lst (wV (nmL kvs))) = H2 at s3 e3 ⊢
    have s02 := s1.trans s3
    refine neD_like (.inl (.inl (s3 _ _ eD1))) (.inl (.inl e3)) (fun w hw => (nm_word (a2 w hw)).2.1) ⟨_, rfl, ?_⟩
    refine iteF ?_
    have hD2 := hD.same s02
    have e22 := s02 _ _ e2
    have nD2 : d2 ≠ d := n2
    refine ⟨d2, _, e22, trivial, fun od => ?_⟩
    have eF : (upd H2 d2 (.frz od (.dK kvs))) d2 = some (.frz od (.dK kvs)) := upd_same
    have sF : ∀ x o, x ≠ d2 → H2 x = some o → (upd H2 d2 (.frz od (.dK kvs))) x = some o := fun x o hx e => (upd_ne hx).trans e
    have gF : ∀ x, (upd H2 d2 (.frz od (.dK kvs))) x = none → H2 x = none := fun x hx => by
      by_cases c : x = d2
      · rw [c, upd_same] at hx
        cases hx
      · rw [upd_ne c] at hx
        exact hx
    generalize upd H2 d2 (.frz od (.dK kvs)) = HF at eF sF gF ⊢
    have hDF : DeskAt HF (cA K "Desk") b dx d k kvs := ⟨sF _ _ nb2.symm hD2.eb, sF _ _ nD2.symm hD2.ed⟩
    refine ⟨_, rfl, d2, od, rfl, .inl ⟨kvs, eF, fun D hD => ?_⟩⟩
    refine lc_it walk_keys (fun i H' => ∃ d', (∀ x o, x ≠ b → x ≠ d → HF x = some o → H' x = some o) ∧ H' D = some (.lst []) ∧ DeskAt H' (cA K "Desk") b dx d' k kvs ∧ (d' = d ∨ HF d' = none)) ⟨d, fun x o _ _ e => same_upd hD _ _ e, upd_same, hDF.same (same_upd hD), .inl rfl⟩ (fun i H' _ ⟨d', g1, _⟩ => g1 _ _ nb2 nD2 eF) (fun i x H3 H4 hi ⟨d', g1, g2, g3, g4⟩ hY => ?_) (fun H3 ⟨d', g1, g2, g3, g4⟩ => ?_)
    · obtain ⟨rfl, κ, v, hv, rfl⟩ := hY
      obtain ⟨n, r, rfl, m1, m2, m3, m4⟩ := hK.at hN (List.mem_of_getElem? hv)
      obtain ⟨y1, y2⟩ := say_show (k := k) m1 m3
      have e24 := g1 _ _ nb2 nD2 eF
      have lb := (nm_word m1).2.2
      refine ⟨rfl, ?_⟩
      refine ⟨_, rfl, b, dx, _, rfl, g3.eb, rfl, _, rfl, _, _, rfl, rfl, ?_, b, dx, d', k, kvs, N, [Wt "show", n], ?_, g3, hK, hN, k1, k4, y2, ?_⟩
      · rw [Tx_len]
        exact sl_le (by show 5 + _ ≤ _; omega)
      · have et : Str.ofString "show " ++ Tx n = Tx (TL.joinL [32] [Wt "show", n]) := by
          rw [join2, ← tx_W "show ", Tx_app]
          rfl
        rw [← et]
        rfl
      rw [y1]
      intro H5 d5 s5 hD5 hd5
      have nbd : D ≠ b := ne_of g2 g3.eb (by intro z; cases z)
      have ndd : D ≠ d' := ne_of g2 g3.ed (by intro z; cases z)
      have keep : ∀ x o, x ≠ b → x ≠ d → HF x = some o → H5 x = some o := fun x o hx1 hx2 e => by
        refine s5 x o hx1 (fun z => ?_) (g1 x o hx1 hx2 e)
        rcases g4 with g4 | g4
        · exact hx2 (z.trans g4)
        · rw [z, g4] at e
          cases e
      refine ⟨_, rfl, _, rfl, d2, _, rfl, .inl ⟨kvs, kN n, .inr ⟨od, keep _ _ nb2 nD2 eF⟩, rfl, m2.symm⟩, r, rfl, rfl, _, rfl, ?_⟩
      have en : (!decide (V.str (Tx (shw r)) = V.str (Tx (shw r)))) = false := by rw [decide_eq_true rfl]; rfl
      rw [en]
      refine iteF ?_
      refine ⟨d5, keep, s5 _ _ nbd ndd g2, hD5, ?_⟩
      by_cases c2 : d5 = d
      · exact .inl c2
      rcases hd5 with z | z
      · rw [z]
        exact g4
      · refine .inr ?_
        cases e : HF d5 with
        | none => rfl
        | some o =>
          by_cases c1 : d5 = b
          · rw [c1, g3.eb] at z
            cases z
          · rw [g1 d5 o c1 c2 e] at z
            cases z
    · refine ⟨Nat.zero_le _, fun F hF => ?_⟩
      have e24 := g1 _ _ nb2 nD2 eF
      refine eqD_nil (.inl (.inl (same_upd hF _ _ g2))) (.inl (.inl upd_same)) (fun x hx => by cases hx) ⟨same_upd hF _ _ e24, ?_⟩
      refine q _ fun x o hx1 hx2 e => ?_
      by_cases c : x = d2
      · rw [c, upd_same]
        rw [c, e2] at e
        exact e
      · rw [upd_ne c]
        exact same_upd hF _ _ (g1 x o hx1 hx2 (sF x o c (s02 x o e)))
end
end BR
set_option Elab.async false
set_option linter.all false
set_option maxRecDepth 100000
set_option maxHeartbeats 4000000
/-! L14: two desks, two states; plain -/
namespace BR
open PySem PySem.Spec PyProof.Rows L2
theorem RowR.sd {N : List (List Nat)} {k k2 : Nat} {kvs kvs2 : List (L2.Key × V)} {ws : List (List Nat)} {due : List Nat} {C b dx d : Addr} {H : Hp} {Q : VK} (r : RowR N k kvs ws due k2 kvs2) (hD : DeskAt H C b dx d k kvs)
    (h : ∀ H' d', SameB b d H H' → DeskAt H' C b dx d' k2 kvs2 → (d' = d ∨ H d' = none) → Q (.str (Tx due)) H') : SdAns C b dx d H Q (sayM k kvs ws) := by
  rcases r.ans with ⟨e, h1, h2⟩ | ⟨x, e, e2, e3, e4⟩
  · rw [e]
    refine ⟨by rw [Tx_len]; exact sl_le h1, decide_eq_false fun z => ?_, h⟩
    have z1 := V.str.inj z
    have z2 : cutS (Tx due) none (some ((1 : Nat) : Int)) = Tx (due.take 1) := cutS_to due 1
    have z3 : Tx (due.take 1) = Tx [9] := z2.symm.trans z1
    have z4 := Tx_inj z3
    exact h2 (List.mem_of_mem_take (i := 1) (by rw [z4]; exact List.mem_singleton_self 9))
  · rw [e]
    intro H' s
    have q := h H' d (sameB s) (by rw [e3, e4]; exact hD.same s) (.inl rfl)
    rw [e2] at q
    exact q
/-- a desk and its state -/
structure One (C : Addr) (N : List (List Nat)) (H : Hp) (b dx S d e : Addr) (k : Nat) (kvs : List (L2.Key × V)) : Prop where
  desk : DeskAt H C b dx d k kvs
  st : StAt H S e k kvs
  kp : Kp N k kvs
  lo : 1 ≤ k
  hi : k ≤ 4
  dS : d ≠ S
  de : d ≠ e
def Far (d e S d' e' S' : Addr) : Prop := d ≠ d' ∧ d ≠ e' ∧ d ≠ S' ∧ e ≠ d' ∧ e ≠ e' ∧ e ≠ S' ∧ S ≠ d' ∧ S ≠ e' ∧ S ≠ S'
theorem Far.symm {d e S d' e' S' : Addr} (h : Far d e S d' e' S') : Far d' e' S' d e S := by
  obtain ⟨h1, h2, h3, h4, h5, h6, h7, h8, h9⟩ := h
  exact ⟨h1.symm, h4.symm, h7.symm, h2.symm, h5.symm, h8.symm, h3.symm, h6.symm, h9.symm⟩
def Tw (C : Addr) (N : List (List Nat)) (H : Hp) (b dx S b' dx' S' : Addr) : Prop := ∃ d e k kvs d' e' k' kvs', One C N H b dx S d e k kvs ∧ One C N H b' dx' S' d' e' k' kvs' ∧ b ≠ b' ∧ Far d e S d' e' S'
theorem Tw.swap {C : Addr} {N : List (List Nat)} {H : Hp} {b dx S b' dx' S' : Addr} (h : Tw C N H b dx S b' dx' S') : Tw C N H b' dx' S' b dx S := by
  obtain ⟨d, e, k, kvs, d', e', k', kvs', h1, h2, h3, h4⟩ := h
  exact ⟨d', e', k', kvs', d, e, k, kvs, h2, h1, h3.symm, h4.symm⟩
def Fr (b d S e : Addr) (H H' : Hp) : Prop := ∀ x o, x ≠ b → x ≠ d → x ≠ S → x ≠ e → H x = some o → H' x = some o
section
variable {C : Addr} {N : List (List Nat)} {H H' : Hp} {b dx S d e : Addr} {k : Nat} {kvs : List (L2.Key × V)}
theorem One.same (h : One C N H b dx S d e k kvs) (s : Same H H') : One C N H' b dx S d e k kvs := ⟨h.desk.same s, h.st.same s, h.kp, h.lo, h.hi, h.dS, h.de⟩
theorem One.keep {x : Addr} {u : HO} (o1 : One C N H b dx S d e k kvs) (fr : Fr b d S e H H') (h : H x = some u) (h1 : ∀ D fs, u ≠ .ins C D fs) (h2 : ∀ l, u ≠ .dK l) : H' x = some u :=
  fr x u (ne_of h o1.desk.eb (h1 _ _)) (ne_of h o1.desk.ed (h2 _)) (ne_of h o1.st.es (h2 _)) (ne_of h o1.st.ed (h2 _)) h
theorem One.keepL {x : Addr} {l : List V} (o1 : One C N H b dx S d e k kvs) (fr : Fr b d S e H H') (h : H x = some (.lst l)) : H' x = some (.lst l) :=
  o1.keep fr h (fun _ _ z => by cases z) fun _ z => by cases z
theorem One.keepQ {K : PySem.W.Frag} {x : Addr} {l : List V} (o1 : One C N H b dx S d e k kvs) (fr : Fr b d S e H H') (h : SqL K H x l) : SqL K H' x l := by
  rcases h with (h | ⟨o, h⟩) | h
  · exact .inl (.inl (o1.keepL fr h))
  · exact .inl (.inr ⟨o, o1.keep fr h (fun _ _ z => by cases z) fun _ z => by cases z⟩)
  · exact .inr h
theorem sq_same {K : PySem.W.Frag} {x : Addr} {l : List V} (s : Same H H') (h : SqL K H x l) : SqL K H' x l := by
  rcases h with (h | ⟨o, h⟩) | h
  · exact .inl (.inl (s _ _ h))
  · exact .inl (.inr ⟨o, s _ _ h⟩)
  · exact .inr h
theorem tw_step {H3 H4 H5 : Hp} {p b' dx' S' d' e' d2 e2 : Addr} {k' k2 : Nat} {kvs' kvs2 : List (L2.Key × V)} (o1 : One C N H b dx S d e k kvs) (o2 : One C N H b' dx' S' d' e' k' kvs') (hb : b ≠ b') (far : Far d e S d' e' S')
    (hp : H p = none) (s3 : Same H H3) (s4 : SameD p S e H3 H4) (st : StAt H4 S e2 k2 kvs2) (he : e2 = e ∨ H3 e2 = none) (s5 : SameB b d H4 H5) (dk : DeskAt H5 C b dx d2 k2 kvs2) (hd : d2 = d ∨ H4 d2 = none) (kp2 : Kp N k2 kvs2) (lo2 : 1 ≤ k2) (hi2 : k2 ≤ 4) :
    Tw C N H5 b dx S b' dx' S' ∧ Fr b d S e H H5 := by
  obtain ⟨f1, f2, f3, f4, f5, f6, f7, f8, f9⟩ := far
  have fr : Fr b d S e H H5 := fun x o x1 x2 x3 x4 ex => s5 x o x1 x2 (s4 x o (ne_of_none ex hp) x3 x4 (s3 x o ex))
  have no : ∀ {D : Addr} {fs : List (Str × V)} {l : List (L2.Key × V)}, (HO.ins C D fs) ≠ .dK l := fun z => by cases z
  have no' : ∀ {D : Addr} {fs : List (Str × V)} {l : List (L2.Key × V)}, HO.dK l ≠ (HO.ins C D fs) := fun z => by cases z
  have bS : b ≠ S := ne_of o1.desk.eb o1.st.es no
  have be : b ≠ e := ne_of o1.desk.eb o1.st.ed no
  have eb4 := s4 _ _ (ne_of_none o1.desk.eb hp) bS be (s3 _ _ o1.desk.eb)
  have ed4 := s4 _ _ (ne_of_none o1.desk.ed hp) o1.dS o1.de (s3 _ _ o1.desk.ed)
  have e2b : e2 ≠ b := ne_of st.ed eb4 no'
  have e2d : e2 ≠ d := by
    rcases he with z | z
    · rw [z]
      exact o1.de.symm
    · exact (ne_of_none (s3 _ _ o1.desk.ed) z).symm
  have in4 : ∀ {x : Addr} {u : HO}, x ≠ S → x ≠ e → H x = some u → H4 x = some u := fun {x u} x1 x2 h => s4 x u (ne_of_none h hp) x1 x2 (s3 x u h)
  have d4 := in4 f7.symm f4.symm o2.desk.ed
  have e4 := in4 f8.symm f5.symm o2.st.ed
  have S4 := in4 f9.symm f6.symm o2.st.es
  have dd : ∀ {x : Addr} {u : HO}, d ≠ x → H4 x = some u → d2 ≠ x := fun {x u} x1 h => by
    rcases hd with z | z
    · rw [z]
      exact x1
    · exact (ne_of_none h z).symm
  have ee : ∀ {x : Addr} {u : HO}, e ≠ x → H x = some u → e2 ≠ x := fun {x u} x1 h => by
    rcases he with z | z
    · rw [z]
      exact x1
    · exact (ne_of_none (s3 _ _ h) z).symm
  refine ⟨⟨d2, e2, k2, kvs2, d', e', k', kvs', ⟨dk, ⟨s5 _ _ bS.symm o1.dS.symm st.es, s5 _ _ e2b e2d st.ed, st.ne⟩, kp2, lo2, hi2, dd o1.dS st.es, dd e2d.symm st.ed⟩, ⟨⟨?_, ?_⟩, ⟨?_, ?_, o2.st.ne⟩, o2.kp, o2.lo, o2.hi, o2.dS, o2.de⟩, hb, dd f1 d4, dd f2 e4, dd f3 S4, ee f4 o2.desk.ed, ee f5 o2.st.ed, ee f6 o2.st.es, f7, f8, f9⟩, fr⟩
  · exact fr _ _ hb.symm (ne_of o2.desk.eb o1.desk.ed no) (ne_of o2.desk.eb o1.st.es no) (ne_of o2.desk.eb o1.st.ed no) o2.desk.eb
  · exact fr _ _ (ne_of o2.desk.ed o1.desk.eb no') f1.symm f7.symm f4.symm o2.desk.ed
  · exact fr _ _ (ne_of o2.st.es o1.desk.eb no') f3.symm f9.symm f6.symm o2.st.es
  · exact fr _ _ (ne_of o2.st.ed o1.desk.eb no') f2.symm f8.symm f5.symm o2.st.ed
/-- the desk at j, with its state -/
theorem tw_pick {b0 dx0 S0 b1 dx1 S1 : Addr} {j : Nat} (h : Tw C N H b0 dx0 S0 b1 dx1 S1) (hj : j < 2) : ∃ b dx S d e k kvs b' dx' S' d' e' k' kvs', One C N H b dx S d e k kvs ∧ One C N H b' dx' S' d' e' k' kvs' ∧ b ≠ b' ∧ Far d e S d' e' S' ∧
    [V.ref b0, V.ref b1][j]? = some (V.ref b) ∧ [V.ref S0, V.ref S1][j]? = some (V.ref S) ∧ ∀ H5, Tw C N H5 b dx S b' dx' S' → Tw C N H5 b0 dx0 S0 b1 dx1 S1 := by
  obtain ⟨d, e, k, kvs, d', e', k', kvs', h1, h2, h3, h4⟩ := h
  match j, hj with
  | 0, _ => exact ⟨b0, dx0, S0, d, e, k, kvs, b1, dx1, S1, d', e', k', kvs', h1, h2, h3, h4, rfl, rfl, fun _ z => z⟩
  | 1, _ => exact ⟨b1, dx1, S1, d', e', k', kvs', b0, dx0, S0, d, e, k, kvs, h2, h1, h3.symm, h4.symm, rfl, rfl, fun _ z => z.swap⟩
theorem fresh_same {H1 H2 : Hp} {p : Addr} (hp : H p = none) (s : Same H H1) (t : SameX p H1 H2) : Same H H2 := fun x o e => t x o (ne_of_none e hp) (s x o e)
theorem mk_same {x y : Addr} {o u : HO} (hx : H x = none) (hy : H y = none) (s : SameX x (upd (upd H y o) x u) H') : Same H H' := fresh_same hx (Same.upn (same_upd hy) hx) s
theorem st_new (hS : H S = none) (he : (upd H S (.dK [])) e = none) : Same H (upd (upd (upd H S (.dK [])) e (.dK [])) S (.dK (mergeK [] [(kKi, V.int 4), (kKe, V.ref e)]))) ∧ StAt (upd (upd (upd H S (.dK [])) e (.dK [])) S (.dK (mergeK [] [(kKi, V.int 4), (kKe, V.ref e)]))) S e 4 [] ∧ H e = none := by
  have ne : S ≠ e := ne_of_none upd_same he
  have he' : H e = none := by
    rw [upd_ne ne.symm] at he
    exact he
  refine ⟨fun x o ex => ?_, ⟨upd_same, (upd_ne ne.symm).trans upd_same, ne⟩, he'⟩
  have x1 := ne_of_none ex hS
  rw [upd_ne x1, upd_ne (ne_of_none ex he'), upd_ne x1]
  exact ex
end
/-- what stands while the law goes on -/
structure LI (K : PySem.W.Frag) (C : Addr) (ns : List (List Nat)) (H : Hp) (a Lb Ls Ln b0 dx0 S0 b1 dx1 S1 : Addr) (js : List Int) : Prop where
  sq : SqL K H a (js.map V.int)
  lb : H Lb = some (.lst [.ref b0, .ref b1])
  ls : H Ls = some (.lst [.ref S0, .ref S1])
  ln : H Ln = some (.lst (wV ns))
  tw : Tw C ns H b0 dx0 S0 b1 dx1 S1
end BR
set_option Elab.async false
set_option linter.all false
set_option maxRecDepth 100000
set_option maxHeartbeats 4000000
/-! L15: the law -/
namespace BR
open PySem PySem.Spec PyProof.Rows L2
section
variable {P : Program} {w : World} {K : PySem.W.Frag} {mg : Str → Option Value} {base : Heap} {f : Addr} {fd : FuncData}
def spLaw (K : PySem.W.Frag) : Sp := fun vs H Q _ => ∃ (a : Addr) (js : List Int), vs = [.ref a] ∧ SqL K H a (js.map V.int) ∧ js.length ≤ 63 ∧ ∀ H', Q (.bl true) H'
theorem sc_law : FnScope ["script", "desks", "states", "first", "most", "names", "k", "pool", "at", "row", "due"] ["script"] (defScope s_law) := ⟨rfl, rfl, rfl, by decide +kernel, rfl, by decide +kernel, by decide +kernel⟩
theorem ok_law (T : Txt K mg) (F : FunP K "law" "law" s_law f fd) (g_Desk : Dc P w K mg base CX0 1 "Desk" (cA K "Desk") ["self"] (spDInit (cA K "Desk"))) (g__law_pool : Dk P w K mg base CX0 1 "_law_pool" ["script", "k"] (spPool K)) (g__law_draw : Dk P w K mg base CX0 1 "_law_draw" ["pool", "many"] spDraw)
    (g__law_names : Dk P w K mg base CX0 2 "_law_names" ["pool"] spNames) (g__law_deed : Dk P w K mg base CX0 5 "_law_deed" ["pool", "state", "names", "most"] spLDeed) (g__law_asked : Dk P w K mg base (L2.CX P w) 9 "_law_asked" ["pool", "state", "names"] spLAsk)
    (g__law_said : Dk P w K mg base CX0 10 "_law_said" ["desk", "row"] (spSaid (cA K "Desk"))) (g__law_end : Dk P w K mg base (L2.CX P w) 10 "_law_end" ["desk", "kept"] (spEnd (cA K "Desk"))) : FnOk P w K mg base (L2.CX P w) 11 f fd ["script"] (spLaw K) := by
  refine F.ok sc_law (fun vs H Q E h => ?_) (fun cdv A outer s H vs Q E hr h => ?_)
  · obtain ⟨a, js, rfl, _⟩ := h
    rfl
  · obtain ⟨a, js, rfl, hq, h63, q⟩ := h
    have hu := hu_of hr
    refine ⟨_, (pss_cons (ps_set (i := 1) sc_law.nd rfl (.inl rfl) (pe_lst (pa_cons (g_Desk.make0 hr pass0) (pa_cons (g_Desk.make0 hr pass0) pa_nil))))
       (pss_cons (ps_set (i := 2) sc_law.nd rfl (.inl rfl) (pe_lst (pa_cons (pe_disp (pps_cons pe_str pe_int (pps_cons pe_str pe_dnewK pps_nil)) (by rfl) (by rfl) (fun z => by cases z) (by decide)) (pa_cons (pe_disp (pps_cons pe_str pe_int (pps_cons pe_str pe_dnewK pps_nil)) (by rfl) (by rfl) (fun z => by cases z) (by decide)) pa_nil))))
       (pss_cons (ps_set (i := 3) sc_law.nd rfl (.inl rfl) (g__law_pool.call hr pass0 (pa_cons (pv 0) (pa_cons pe_int pa_nil))))
       (pss_cons (ps_set (i := 4) sc_law.nd rfl (.inl rfl) (pe_ix (show IxR _ (rIxL K) from ix_list) (pe_lst (pa_cons pe_int (pa_cons pe_int (pa_cons pe_int (pa_cons pe_int pa_nil))))) (g__law_draw.call hr pass0 (pa_cons (pv 3) (pa_cons pe_int pa_nil))) (fun _ _ => rfl)))
       (pss_cons (ps_set (i := 5) sc_law.nd rfl (.inl rfl) (pe_slice sl_list (g__law_names.call hr pass0 (pa_cons (pv 3) pa_nil)) po_none (po_some pe_int)))
       (pss_cons (ps_for (passes_of rfl) rfl (pi_range1 rfl T.b_range (pa_cons (pe_callB (call_max2 rfl) (by rfl) T.b_max (by decide +kernel) (pa_cons pe_int (pa_cons (pe_callB (call_min2 rfl) (by rfl) T.b_min (by decide +kernel) (pa_cons pe_int (pa_cons (pe_callB call_len_seq (by rfl) T.b_len (by decide +kernel) (pa_cons (pv 0) pa_nil)) pa_nil))) pa_nil))) pa_nil)) (pg_name (i := 6) sc_law.nd rfl (.inl rfl))
        (pss_cons (ps_set (i := 7) sc_law.nd rfl (.inl rfl) (g__law_pool.call hr pass0 (pa_cons (pv 0) (pa_cons (pv 6) pa_nil))))
       (pss_cons (ps_set (i := 8) sc_law.nd rfl (.inl rfl) (pe_callTy call_int1 (by rfl) T.b_int (by decide +kernel) (pa_cons (pe_cmpR op_eq (g__law_draw.call hr pass0 (pa_cons (pv 7) (pa_cons pe_int pa_nil))) pe_int (nomark _)) pa_nil)))
       (pss_cons (ps_if (pt_cmpR op_eq (g__law_draw.call hr pass0 (pa_cons (pv 7) (pa_cons pe_int pa_nil))) pe_int (nomark _))
        (pss_one (ps_asg (g__law_deed.call hr pass0 (pa_cons (pv 7) (pa_cons (pe_ix (show IxR _ (rIxL K) from ix_list) (pv 2) (pv 8) (fun _ _ => rfl)) (pa_cons (pv 5) (pa_cons (pv 4) pa_nil))))) (pg_tup (by rfl) (pgs_cons (pg_name (i := 9) sc_law.nd rfl (.inl rfl)) (pgs_cons (pg_name (i := 10) sc_law.nd rfl (.inl rfl)) pgs_nil)))))
        (pss_one (ps_asg (g__law_asked.call hr (passes_call (takes_of rfl rfl rfl rfl) (fun _ _ _ _ h => h)) (pa_cons (pv 7) (pa_cons (pe_ix (show IxR _ (rIxL K) from ix_list) (pv 2) (pv 8) (fun _ _ => rfl)) (pa_cons (pv 5) pa_nil)))) (pg_tup (by rfl) (pgs_cons (pg_name (i := 9) sc_law.nd rfl (.inl rfl)) (pgs_cons (pg_name (i := 10) sc_law.nd rfl (.inl rfl)) pgs_nil))))))
       (pss_one (ps_if (pt_cmpR op_ne (g__law_said.call hr pass0 (pa_cons (pe_ix (show IxR _ (rIxL K) from ix_list) (pv 1) (pv 8) (fun _ _ => rfl)) (pa_cons (pv 9) pa_nil))) (pv 10) (nomark _))
        (pss_one (ps_ret pe_bl))
        pss_nil))))))
       (pss_one (ps_ret (pe_and (g__law_end.call hr (passes_call (takes_of rfl rfl rfl rfl) (fun _ _ _ _ h => h)) (pa_cons (pe_ix (show IxR _ (rIxL K) from ix_list) (pv 1) pe_int (fun _ _ => rfl)) (pa_cons (pe_dget hu (pe_ix (show IxR _ (rIxL K) from ix_list) (pv 2) pe_int (fun _ _ => rfl)) pe_str (fun _ _ => rfl)) pa_nil))) (pe_one (g__law_end.call hr (passes_call (takes_of rfl rfl rfl rfl) (fun _ _ _ _ h => h)) (pa_cons (pe_ix (show IxR _ (rIxL K) from ix_list) (pv 1) pe_int (fun _ _ => rfl)) (pa_cons (pe_dget hu (pe_ix (show IxR _ (rIxL K) from ix_list) (pv 2) pe_int (fun _ _ => rfl)) pe_str (fun _ _ => rfl)) pa_nil))))))))))))) , ?_⟩
    -- desks
    refine fun b0 dx0 hb0 hdx0 hne0 => ⟨b0, dx0, rfl, upd_same, fun H1 d0 s1 hd0 hD0 => ⟨rfl, fun b1 dx1 hb1 hdx1 hne1 => ⟨b1, dx1, rfl, upd_same, fun H2 d1 s2 hd1 hD1 => ⟨rfl, by show 2 ≤ sizeLine; decide, fun Lb hLb => ?_⟩⟩⟩⟩
    have m1 := mk_same hb0 hdx0 s1
    have m2 := mk_same hb1 hdx1 s2
    have s1' : Same H1 (upd (upd H1 dx1 (.own b1)) b1 (.ins (cA K "Desk") dx1 [])) := Same.upn (same_upd hdx1) hb1
    have b01 : b0 ≠ b1 := ne_of_none hD0.eb hb1
    have d01 : d0 ≠ d1 := ne_of_none (s1' _ _ hD0.ed) hd1
    have hD02 := hD0.same m2
    have eLb : (upd H2 Lb (.lst [V.ref b0, V.ref b1])) Lb = some (.lst [V.ref b0, V.ref b1]) := upd_same
    have m3 : Same H2 (upd H2 Lb (.lst [V.ref b0, V.ref b1])) := same_upd hLb
    generalize upd H2 Lb (.lst [V.ref b0, V.ref b1]) = H3 at eLb m3 ⊢
    -- states
    refine fun S0 hS0 e0 he0 => ⟨(upd_ne (ne_of_none upd_same he0)).trans upd_same, [(kKi, V.int 4), (kKe, V.ref e0)], rfl, by show 2 ≤ 15; decide, ?_⟩
    obtain ⟨m4, st0, he0'⟩ := st_new hS0 he0
    generalize upd (upd (upd H3 S0 (.dK [])) e0 (.dK [])) S0 (.dK (mergeK [] [(kKi, V.int 4), (kKe, V.ref e0)])) = H4 at m4 st0 ⊢
    refine fun S1 hS1 e1 he1 => ⟨(upd_ne (ne_of_none upd_same he1)).trans upd_same, [(kKi, V.int 4), (kKe, V.ref e1)], rfl, by show 2 ≤ 15; decide, ?_⟩
    obtain ⟨m5, st1, he1'⟩ := st_new hS1 he1
    generalize upd (upd (upd H4 S1 (.dK [])) e1 (.dK [])) S1 (.dK (mergeK [] [(kKi, V.int 4), (kKe, V.ref e1)])) = H5 at m5 st1 ⊢
    refine ⟨by show 2 ≤ sizeLine; decide, fun Ls hLs => ?_⟩
    have eLs : (upd H5 Ls (.lst [V.ref S0, V.ref S1])) Ls = some (.lst [V.ref S0, V.ref S1]) := upd_same
    have m6 : Same H5 (upd H5 Ls (.lst [V.ref S0, V.ref S1])) := same_upd hLs
    generalize upd H5 Ls (.lst [V.ref S0, V.ref S1]) = H6 at eLs m6 ⊢
    have m36 : Same H3 H6 := (m4.trans m5).trans m6
    have m26 : Same H2 H6 := m3.trans m36
    have hq6 : SqL K H6 a (js.map V.int) := sq_same ((m1.trans m2).trans m26) hq
    have hD06 := hD02.same m26
    have hD16 := hD1.same m26
    have st06 := (st0.same m5).same m6
    have st16 := st1.same m6
    have far : Far d0 e0 S0 d1 e1 S1 := by
      have i03 := m3 _ _ hD02.ed
      have i13 := m3 _ _ hD1.ed
      exact ⟨d01, ne_of_none (m4 _ _ i03) he1', ne_of_none (m4 _ _ i03) hS1, (ne_of_none i13 he0').symm, ne_of_none st0.ed he1', ne_of_none st0.ed hS1, (ne_of_none i13 hS0).symm, ne_of_none st0.es he1', ne_of_none st0.es hS1⟩
    have dS0 : d0 ≠ S0 := ne_of_none (m3 _ _ hD02.ed) hS0
    have de0 : d0 ≠ e0 := ne_of_none (m3 _ _ hD02.ed) he0'
    have dS1 : d1 ≠ S1 := ne_of_none (m4 _ _ (m3 _ _ hD1.ed)) hS1
    have de1 : d1 ≠ e1 := ne_of_none (m4 _ _ (m3 _ _ hD1.ed)) he1'
    have eLb6 := m36 _ _ eLb
    clear st0 st1 hD0 hD1 hD02 m1 m2 s1 s2 hq
    -- the first numbers
    refine ⟨_, rfl, a, js, 0, rfl, hq6, fun H7 p s7 hp hP => ?_⟩
    refine ⟨by show 4 ≤ sizeLine; decide, fun Z hZ => ?_⟩
    have eZ : (upd H7 Z (.lst [nI 40, nI 10, nI 10, nI 10])) Z = some (.lst [nI 40, nI 10, nI 10, nI 10]) := upd_same
    have sZ : Same H7 (upd H7 Z (.lst [nI 40, nI 10, nI 10, nI 10])) := same_upd hZ
    have npZ : Z ≠ p := hP.ne hZ
    refine ⟨_, rfl, p, 4, rfl, by decide, big_lt (by decide), hP.same sZ, fun r8 H8 hr8 s8 hP8 => ?_⟩
    obtain ⟨n, hn, hn40⟩ : ∃ n : Nat, [nI 40, nI 10, nI 10, nI 10][r8]? = some (nI n) ∧ n ≤ 40 := by
      match r8, hr8 with
      | 0, _ => exact ⟨40, rfl, by decide⟩
      | 1, _ => exact ⟨10, rfl, by decide⟩
      | 2, _ => exact ⟨10, rfl, by decide⟩
      | 3, _ => exact ⟨10, rfl, by decide⟩
    refine ⟨Z, _, _, _, rfl, rfl, .inl (.inl (s8 _ _ npZ eZ)), atI_nat (j := r8) hn, ?_⟩
    refine ⟨_, rfl, p, rfl, hP8, fun ns0 H9 D9 l1 l10 hnm s9 hP9 hD9 eD9 => ?_⟩
    have m8 : Same H6 H8 := fresh_same hp (s7.trans sZ) s8
    have m9 : Same H6 H9 := fresh_same hp m8 s9
    refine ⟨_, rfl, D9, _, rfl, .inl (.inl eD9), fun Ln hLn => ?_⟩
    have ecut : cutV (wV ns0) none (some ((5 : Nat) : Int)) = wV (ns0.take 5) := by
      rw [cutV_to]
      exact (List.map_take ..).symm
    have eLn : (upd H9 Ln (.lst (cutV (wV ns0) none (some ((5 : Nat) : Int))))) Ln = some (.lst (wV (ns0.take 5))) := by
      rw [ecut]
      exact upd_same
    have m10 : Same H6 (upd H9 Ln (.lst (cutV (wV ns0) none (some ((5 : Nat) : Int))))) := m9.trans (same_upd hLn)
    change H9 Ln = none at hLn
    have hns : NmsOk (ns0.take 5) := ⟨fun m hm => hnm m (List.mem_of_mem_take hm), by rw [List.length_take]; omega⟩
    have n1 : 1 ≤ (ns0.take 5).length := by rw [List.length_take]; omega
    have n10 : (ns0.take 5).length ≤ 10 := by rw [List.length_take]; omega
    generalize ns0.take 5 = ns at eLn hns n1 n10 ecut
    generalize upd H9 Ln (.lst (cutV (wV ns0) none (some ((5 : Nat) : Int)))) = H10 at eLn m10
    have hq10 := sq_same m10 hq6
    have LI0 : LI K (cA K "Desk") ns H10 a Lb Ls Ln b0 dx0 S0 b1 dx1 S1 js := ⟨hq10, m10 _ _ eLb6, m10 _ _ eLs, eLn, d0, e0, 4, [], d1, e1, 4, [], ⟨hD06.same m10, st06.same m10, Kp.nil ns 4, by decide, by decide, dS0, de0⟩, ⟨hD16.same m10, st16.same m10, Kp.nil ns 4, by decide, by decide, dS1, de1⟩, b01, far⟩
    have hlen : (js.map V.int).length ≤ 63 := by rw [List.length_map]; exact h63
    refine ⟨_, rfl, a, _, rfl, .inl hq10, _, _, rfl, _, _, rfl, _, rfl, ?_, ?_, ?_⟩
    · repeat' split
      all_goals omega
    · repeat' split
      all_goals omega
    clear hq10 far dS0 de0 dS1 de1 st06 st16 hD06 hD16 hq6 hLn hLs hS0 hS1 he0 he1 he0' he1'
    refine for_it walk_range (fun i σ H' => ∃ y6 y7 y8 y9 y10, σ = [some (.ref a), some (.ref Lb), some (.ref Ls), some (.ref p), some (nI n), some (.ref Ln), y6, y7, y8, y9, y10] ∧ LI K (cA K "Desk") ns H' a Lb Ls Ln b0 dx0 S0 b1 dx1 S1 js)
      ⟨_, _, _, _, _, rfl, LI0⟩ (fun _ _ _ _ _ => trivial) (fun i x σ H2 H2' hi hPv hY => ?_) (fun σ H2 hPv => ?_)
    · obtain ⟨y6, y7, y8, y9, y10, rfl, Li⟩ := hPv
      obtain ⟨rfl, hx⟩ := hY
      have hx' : x = nI i := hx.trans (congrArg V.int (Int.zero_add _))
      subst hx'
      clear hx
      refine ⟨_, rfl, _, rfl, a, js, i, rfl, Li.sq, fun G1 t u1 ht hT => ?_⟩
      refine ⟨_, rfl, t, 3, rfl, by decide, big_lt (by decide), hT, fun r2 G2 hr2 u2 hT2 => ⟨rfl, .inr ⟨_, rfl, ?_⟩⟩⟩
      obtain ⟨j, ej, hj⟩ : ∃ j : Nat, V.int (if decide (V.int (r2 : Int) = V.int 1) = true then 1 else 0) = nI j ∧ j < 2 := by
        cases decide (V.int (r2 : Int) = V.int 1)
        · exact ⟨0, rfl, by decide⟩
        · exact ⟨1, rfl, by decide⟩
      obtain ⟨b, dx, S, d, e, k, kvs, b', dx', S', d', e', k', kvs', o1, o2, hb, far, jb, jS, back⟩ := tw_pick Li.tw hj
      rw [ej]
      have u02 : Same H2' G2 := fresh_same ht u1 u2
      refine ⟨_, rfl, t, 2, rfl, by decide, big_lt (by decide), hT2, fun r3 G3 hr3 u3 hT3 => ⟨rfl, _, rfl, ?_⟩⟩
      have u03 : Same H2' G3 := fresh_same ht u02 u3
      have st3 := o1.st.same u03
      have eLs3 := u03 _ _ Li.ls
      have eLn3 := u03 _ _ Li.ln
      refine iteB (fun c1 => ?_) (fun c1 => ?_)
      · refine ⟨_, rfl, _, rfl, _, rfl, Ls, _, _, _, rfl, rfl, .inl (.inl eLs3), atI_nat (j := j) jS, _, rfl, _, rfl, t, S, e, Ln, k, n, kvs, ns, ns, rfl, hT3, st3, eLn3, n1, n10, fun m hm => hm, o1.kp, hns, o1.lo, o1.hi, hn40, fun ws due k2 kvs2 e2 G4 D rr sF st4 he2 eD => ⟨D, _, rfl, SqT.of eD, rfl, _, _, rfl, _, _, rfl, rfl, ?_⟩⟩
        have no : ∀ {D : Addr} {fs : List (Str × V)} {l : List (L2.Key × V)}, (HO.ins (cA K "Desk") D fs) ≠ .dK l := fun z => by cases z
        have bt : ∀ {x : Addr} {u : HO}, H2' x = some u → x ≠ t := fun h => ne_of_none h ht
        have D4 : DeskAt G4 (cA K "Desk") b dx d k kvs := ⟨sF _ _ (bt o1.desk.eb) (ne_of o1.desk.eb o1.st.es no) (ne_of o1.desk.eb o1.st.ed no) (u03 _ _ o1.desk.eb), sF _ _ (bt o1.desk.ed) o1.dS o1.de (u03 _ _ o1.desk.ed)⟩
        have eLb4 : G4 Lb = some (.lst [.ref b0, .ref b1]) := sF _ _ (bt Li.lb) (ne_of Li.lb o1.st.es (by intro z; cases z)) (ne_of Li.lb o1.st.ed (by intro z; cases z)) (u03 _ _ Li.lb)
        refine ⟨_, rfl, _, rfl, Lb, _, _, _, rfl, rfl, .inl (.inl eLb4), atI_nat (j := j) jb, _, rfl, b, dx, d, k, kvs, ns, ws, rfl, D4, o1.kp, hns, o1.lo, o1.hi, rr.ord, rr.sd D4 fun G5 d2 s5 hD5 hd2 => ?_⟩
        refine ⟨_, rfl, rfl, _, rfl, ?_⟩
        have en : (!decide (V.str (Tx due) = V.str (Tx due))) = false := by rw [decide_eq_true rfl]; rfl
        rw [en]
        refine iteF ?_
        obtain ⟨tw5, fr5⟩ := tw_step o1 o2 hb far ht u03 sF st4 he2 s5 hD5 hd2 rr.kp rr.lo rr.hi
        exact ⟨_, _, _, _, _, rfl, o1.keepQ fr5 Li.sq, o1.keepL fr5 Li.lb, o1.keepL fr5 Li.ls, o1.keepL fr5 Li.ln, back G5 tw5⟩
      · refine ⟨_, rfl, _, rfl, _, rfl, Ls, _, _, _, rfl, rfl, .inl (.inl eLs3), atI_nat (j := j) jS, _, rfl, t, S, e, Ln, k, kvs, ns, ns, rfl, hT3, st3, eLn3, n1, n10, fun m hm => hm, o1.kp, hns, o1.lo, o1.hi, fun ws due G4 D rr sX eD => ⟨D, _, rfl, SqT.of eD, rfl, _, _, rfl, _, _, rfl, rfl, ?_⟩⟩
        have sF : SameD t S e G3 G4 := sameD sX
        have st4 := st3.sameX hT3 sX
        have he2 : e = e ∨ G3 e = none := .inl rfl
        have no : ∀ {D : Addr} {fs : List (Str × V)} {l : List (L2.Key × V)}, (HO.ins (cA K "Desk") D fs) ≠ .dK l := fun z => by cases z
        have bt : ∀ {x : Addr} {u : HO}, H2' x = some u → x ≠ t := fun h => ne_of_none h ht
        have D4 : DeskAt G4 (cA K "Desk") b dx d k kvs := ⟨sF _ _ (bt o1.desk.eb) (ne_of o1.desk.eb o1.st.es no) (ne_of o1.desk.eb o1.st.ed no) (u03 _ _ o1.desk.eb), sF _ _ (bt o1.desk.ed) o1.dS o1.de (u03 _ _ o1.desk.ed)⟩
        have eLb4 : G4 Lb = some (.lst [.ref b0, .ref b1]) := sF _ _ (bt Li.lb) (ne_of Li.lb o1.st.es (by intro z; cases z)) (ne_of Li.lb o1.st.ed (by intro z; cases z)) (u03 _ _ Li.lb)
        refine ⟨_, rfl, _, rfl, Lb, _, _, _, rfl, rfl, .inl (.inl eLb4), atI_nat (j := j) jb, _, rfl, b, dx, d, k, kvs, ns, ws, rfl, D4, o1.kp, hns, o1.lo, o1.hi, rr.ord, rr.sd D4 fun G5 d2 s5 hD5 hd2 => ?_⟩
        refine ⟨_, rfl, rfl, _, rfl, ?_⟩
        have en : (!decide (V.str (Tx due) = V.str (Tx due))) = false := by rw [decide_eq_true rfl]; rfl
        rw [en]
        refine iteF ?_
        obtain ⟨tw5, fr5⟩ := tw_step o1 o2 hb far ht u03 sF st4 he2 s5 hD5 hd2 rr.kp rr.lo rr.hi
        exact ⟨_, _, _, _, _, rfl, o1.keepQ fr5 Li.sq, o1.keepL fr5 Li.lb, o1.keepL fr5 Li.ls, o1.keepL fr5 Li.ln, back G5 tw5⟩
    · -- the end
      obtain ⟨y6, y7, y8, y9, y10, rfl, Li⟩ := hPv
      obtain ⟨d, e, k, kvs, d', e', k', kvs', o1, o2, hb, far⟩ := Li.tw
      refine ⟨_, rfl, Lb, _, _, _, rfl, rfl, .inl (.inl Li.lb), atI_nat (j := 0) rfl, _, rfl, Ls, _, _, _, rfl, rfl, .inl (.inl Li.ls), atI_nat (j := 0) rfl, S0, _, rfl, dget_k (k := kKe) o1.st.es (stF_ke k e), b0, dx0, d, e, k, kvs, ns, rfl, o1.desk, o1.st.ed, o1.de.symm, o1.kp, hns, o1.lo, o1.hi, fun G1 u1 => ⟨_, rfl, iteT ?_⟩⟩
      obtain ⟨f1, f2, f3, f4, f5, f6, f7, f8, f9⟩ := far
      have fr : Fr b0 d S0 e H2 G1 := fun x o x1 x2 _ _ ex => u1 x o x1 x2 ex
      have eLb1 := o1.keepL fr Li.lb
      have eLs1 := o1.keepL fr Li.ls
      have no : ∀ {D : Addr} {fs : List (Str × V)} {l : List (L2.Key × V)}, (HO.ins (cA K "Desk") D fs) ≠ .dK l := fun z => by cases z
      have no' : ∀ {D : Addr} {fs : List (Str × V)} {l : List (L2.Key × V)}, HO.dK l ≠ (HO.ins (cA K "Desk") D fs) := fun z => by cases z
      have eb1 := u1 _ _ hb.symm (ne_of o2.desk.eb o1.desk.ed no) o2.desk.eb
      have ed1 := u1 _ _ (ne_of o2.desk.ed o1.desk.eb no') f1.symm o2.desk.ed
      have es1 := u1 _ _ (ne_of o2.st.es o1.desk.eb no') f3.symm o2.st.es
      have ee1 := u1 _ _ (ne_of o2.st.ed o1.desk.eb no') f2.symm o2.st.ed
      exact ⟨_, rfl, Lb, _, _, _, rfl, rfl, .inl (.inl eLb1), atI_nat (j := 1) rfl, _, rfl, Ls, _, _, _, rfl, rfl, .inl (.inl eLs1), atI_nat (j := 1) rfl, S1, _, rfl, dget_k (k := kKe) es1 (stF_ke k' e'), b1, dx1, d', e', k', kvs', ns, rfl, ⟨eb1, ed1⟩, ee1, o2.de.symm, o2.kp, hns, o2.lo, o2.hi, fun G2 _ => q G2⟩
end
end BR
set_option Elab.async false
set_option linter.all false
set_option maxRecDepth 100000
set_option maxHeartbeats 0
/-! HF: the head: the facts, each def's promise, the end -/
namespace BR
open PySem PySem.Spec PyProof.Rows L2
section
variable {w : World} {K : PySem.W.Frag} {h : Heap} {mg : Str → Option Value}
theorem ga_cA (K : PySem.W.Frag) (x : Str) : He.ga K x = cA K x := by
  unfold He.ga cA
  cases PySem.W.nsIn K mainGlobals x with
  | none => rfl
  | some a => cases a with
    | none => rfl
    | some v => cases v <;> rfl
theorem h_exc (X : K.In h) (G : h.Ns mainGlobals mg) {x : Str} (c1 : (He.Fa.glo x).ok K = true) (c2 : (He.Fa.exc x).ok K = true) : ExcT K mg x (cA K x) := by
  obtain ⟨e1, e2, e3, e4⟩ := He.exc_ok c2
  have e0 := He.glo_ok X G c1
  rw [ga_cA] at e0 e1 e2 e3 e4
  exact ⟨e0, e1, e2, e3, e4⟩
theorem h_glo (X : K.In h) (G : h.Ns mainGlobals mg) {x : Str} (c1 : (He.Fa.glo x).ok K = true) : mg x = some (.ref (cA K x)) := by
  rw [← ga_cA]
  exact He.glo_ok X G c1
theorem hTxt (X : K.In h) (G : h.Ns mainGlobals mg) (c : He.SaysD hFa hFn K) : Txt K mg where
  b_ValueError := He.free_ok X G (c.fact 75 (f := .free "ValueError") rfl)
  b_bool := He.free_ok X G (c.fact 76 (f := .free "bool") rfl)
  b_enumerate := He.free_ok X G (c.fact 77 (f := .free "enumerate") rfl)
  b_int := He.free_ok X G (c.fact 78 (f := .free "int") rfl)
  b_isinstance := He.free_ok X G (c.fact 79 (f := .free "isinstance") rfl)
  b_len := He.free_ok X G (c.fact 80 (f := .free "len") rfl)
  b_list := He.free_ok X G (c.fact 81 (f := .free "list") rfl)
  b_max := He.free_ok X G (c.fact 82 (f := .free "max") rfl)
  b_min := He.free_ok X G (c.fact 83 (f := .free "min") rfl)
  b_range := He.free_ok X G (c.fact 84 (f := .free "range") rfl)
  b_sorted := He.free_ok X G (c.fact 85 (f := .free "sorted") rfl)
  b_str := He.free_ok X G (c.fact 86 (f := .free "str") rfl)
  b_sum := He.free_ok X G (c.fact 87 (f := .free "sum") rfl)
  b_zip := He.free_ok X G (c.fact 88 (f := .free "zip") rfl)
  c_BRACKETS := He.str_ok X G (c.fact 94 (f := .str "BRACKETS" (Tx lBR)) rfl)
  c_OPENING := He.str_ok X G (c.fact 95 (f := .str "OPENING" (Tx lOP)) rfl)
  c_CLOSING := He.str_ok X G (c.fact 96 (f := .str "CLOSING" (Tx lCL)) rfl)
  c_UNKNOWN := He.str_ok X G (c.fact 97 (f := .str "UNKNOWN" (Tx [63])) rfl)
  c_LETTERS := He.str_ok X G (c.fact 98 (f := .str "LETTERS" (Tx lLET)) rfl)
  c_FIGURES := He.str_ok X G (c.fact 99 (f := .str "FIGURES" (Tx lFIG)) rfl)
  c_MOST_KINDS := He.int_ok X G (c.fact 89 (f := .int "MOST_KINDS" 4) rfl)
  c_MOST_SIGNS := He.int_ok X G (c.fact 90 (f := .int "MOST_SIGNS" 40) rfl)
  c_MOST_LETTERS := He.int_ok X G (c.fact 91 (f := .int "MOST_LETTERS" 8) rfl)
  c_MOST_FIGURES := He.int_ok X G (c.fact 92 (f := .int "MOST_FIGURES" 9) rfl)
  c_FIRST_KINDS := He.int_ok X G (c.fact 93 (f := .int "FIRST_KINDS" 4) rfl)
  x_NoFilling := h_exc X G (c.fact 8 (f := .glo "NoFilling") rfl) (c.fact 126 (f := .exc "NoFilling") rfl)
  x_NoKinds := h_exc X G (c.fact 1 (f := .glo "NoKinds") rfl) (c.fact 127 (f := .exc "NoKinds") rfl)
  x_NoLine := h_exc X G (c.fact 2 (f := .glo "NoLine") rfl) (c.fact 128 (f := .exc "NoLine") rfl)
  x_NoName := h_exc X G (c.fact 10 (f := .glo "NoName") rfl) (c.fact 129 (f := .exc "NoName") rfl)
  x_NoNumber := h_exc X G (c.fact 5 (f := .glo "NoNumber") rfl) (c.fact 130 (f := .exc "NoNumber") rfl)
  x_NoRow := h_exc X G (c.fact 11 (f := .glo "NoRow") rfl) (c.fact 131 (f := .exc "NoRow") rfl)
  x_NotRight := h_exc X G (c.fact 3 (f := .glo "NotRight") rfl) (c.fact 132 (f := .exc "NotRight") rfl)
  g_FORMS := h_glo X G (c.fact 73 (f := .glo "FORMS") rfl)
  g_WITH_ROW := h_glo X G (c.fact 74 (f := .glo "WITH_ROW") rfl)
  g_RowError := h_glo X G (c.fact 0 (f := .glo "RowError") rfl)
  g_NoPlace := h_glo X G (c.fact 7 (f := .glo "NoPlace") rfl)
  g_NoTree := h_glo X G (c.fact 4 (f := .glo "NoTree") rfl)
  g_NoWeights := h_glo X G (c.fact 6 (f := .glo "NoWeights") rfl)
  g_TooMany := h_glo X G (c.fact 9 (f := .glo "TooMany") rfl)
theorem hBgT (c : He.SaysD hFa hFn K) : BgT K where
  cls := ga_cA K "Begun" ▸ He.cls_ok (c.fact 100 (f := .cls "Begun") rfl)
  no := fun f hf => by
    simp only [List.mem_cons, List.mem_nil_iff, or_false] at hf
    rcases hf with rfl | rfl | rfl | rfl | rfl | rfl
    · exact ga_cA K "Begun" ▸ He.noat_ok (c.fact 118 (f := .noat "Begun" "line") rfl)
    · exact ga_cA K "Begun" ▸ He.noat_ok (c.fact 119 (f := .noat "Begun" "brackets") rfl)
    · exact ga_cA K "Begun" ▸ He.noat_ok (c.fact 120 (f := .noat "Begun" "counts") rfl)
    · exact ga_cA K "Begun" ▸ He.noat_ok (c.fact 121 (f := .noat "Begun" "opened") rfl)
    · exact ga_cA K "Begun" ▸ He.noat_ok (c.fact 122 (f := .noat "Begun" "closed") rfl)
    · exact ga_cA K "Begun" ▸ He.noat_ok (c.fact 123 (f := .noat "Begun" "place") rfl)

theorem hDeskT (c : He.SaysD hFa hFn K) : DeskT K where
  cls := ga_cA K "Desk" ▸ He.cls_ok (c.fact 107 (f := .cls "Desk") rfl)
  no := fun f hf => by
    simp only [List.mem_cons, List.mem_nil_iff, or_false] at hf
    rcases hf with rfl | rfl
    · exact ga_cA K "Desk" ▸ He.noat_ok (c.fact 124 (f := .noat "Desk" "kinds") rfl)
    · exact ga_cA K "Desk" ▸ He.noat_ok (c.fact 125 (f := .noat "Desk" "kept") rfl)

theorem hFormT (c : He.SaysT hFa hFn hTab w K) (e : hEx K = true) : FormT K w := by
  obtain ⟨e1, e2⟩ := He.ba e
  obtain ⟨e3, e4⟩ := He.ba e2
  refine ⟨?_, fun p hp => ?_, fun H => ?_⟩
  · rw [← ga_cA]
    exact c.tab 0 (t := (fun K => He.ga K "FORMS", lFORMS.map fun p => Tx p.1)) rfl
  · obtain ⟨u, h1, h2⟩ := He.valsB_ok e3 (q := (Tx p.1, He.Dv.str (Tx p.2))) (List.mem_map.mpr ⟨p, hp, rfl⟩)
    rw [ga_cA] at h1
    obtain ⟨t, rfl⟩ := h2
    exact ⟨t, h1⟩
  · rw [← ga_cA]
    exact He.tupB_ok e4 H
theorem hExcC {D : Addr} (e : excB K D = true) : ExcC K D := by
  obtain ⟨e1, e⟩ := He.ba e
  obtain ⟨e2, e⟩ := He.ba e
  obtain ⟨e3, e⟩ := He.ba e
  obtain ⟨e4, e⟩ := He.ba e
  obtain ⟨e5, e⟩ := He.ba e
  obtain ⟨e6, e⟩ := He.ba e
  obtain ⟨e7, e8⟩ := He.ba e
  exact ⟨He.eqO_ok e1, He.eqO_ok e2, of_decide_eq_true e3, e4, He.eqO_ok e5, He.eqO_ok e6, of_decide_eq_true e7, of_decide_eq_true e8⟩
theorem hErrT (e : hEx K = true) : ErrT K := by
  obtain ⟨e1, _⟩ := He.ba e
  have a : ∀ i, i < 7 → _ := fun i hi => List.all_eq_true.mp e1 i (List.mem_range.mpr hi)
  refine ⟨fun i hi => ?_, fun i g hi hg => ?_, fun i hi => ?_, fun i hi => ?_, fun i hi => ?_⟩
  · exact hExcC (He.ba (a i hi)).1
  · exact of_decide_eq_true (List.all_eq_true.mp (He.ba (He.ba (a i hi)).2).1 g (List.mem_range.mpr hg))
  · exact of_decide_eq_true (He.ba (He.ba (He.ba (a i hi)).2).2).1
  · exact of_decide_eq_true (He.ba (He.ba (He.ba (He.ba (a i hi)).2).2).2).1
  · exact of_decide_eq_true (He.ba (He.ba (He.ba (He.ba (a i hi)).2).2).2).2
theorem h_meth {C m : Str} (c1 : (He.Fa.meth C m).ok K = true) : Meth K (cA K C) m (He.fAd K (C, some m)) := by
  have e := He.meth_ok c1
  rw [← ga_cA]
  exact e
theorem h_mkr {C : Str} (c1 : (He.Fa.mkr C).ok K = true) : Mk K (cA K C) (He.fAd K (C, some "__init__")) := by
  have e := He.mkr_ok c1
  rw [← ga_cA]
  exact e
end
theorem hFacts {P : Program} {w : World} {K : PySem.W.Frag} {h : Heap} {mg : Str → Option Value} {f : Addr} (X : K.In h) (G : h.Ns mainGlobals mg) (hfa : mg ("law" : Str) = some (.ref f)) (ct : He.SaysT hFa hFn hTab w K) (ce : hEx K = true) :
    ∃ fd : FuncData, (∀ (s : Shared) (v : Value), BindsTo s fd ⟨[v], []⟩ [("script", v)]) ∧ ∀ base : Heap, K.In base → base.Ns mainGlobals mg → FnOk P w K mg base (L2.CX P w) 11 f fd ["script"] (spLaw K) := by
  have c := ct.d
  have T := hTxt X G c
  have hBg := hBgT c
  have hDk := hDeskT c
  have hFT := hFormT ct ce
  have hET := hErrT ce
  obtain ⟨fd_is_whole, F_is_whole⟩ := c.def_ 0 (d := hd_is_whole) rfl
  obtain ⟨fd_need_kinds, F_need_kinds⟩ := c.def_ 1 (d := hd_need_kinds) rfl
  obtain ⟨fd_brackets_of, F_brackets_of⟩ := c.def_ 2 (d := hd_brackets_of) rfl
  obtain ⟨fd_is_row_by, F_is_row_by⟩ := c.def_ 3 (d := hd_is_row_by) rfl
  obtain ⟨fd_need_line, F_need_line⟩ := c.def_ 4 (d := hd_need_line) rfl
  obtain ⟨fd_is_opening, F_is_opening⟩ := c.def_ 5 (d := hd_is_opening) rfl
  obtain ⟨fd_other_of, F_other_of⟩ := c.def_ 6 (d := hd_other_of) rfl
  obtain ⟨fd_partners_of, F_partners_of⟩ := c.def_ 7 (d := hd_partners_of) rfl
  obtain ⟨fd_is_line, F_is_line⟩ := c.def_ 8 (d := hd_is_line) rfl
  obtain ⟨fd_is_right, F_is_right⟩ := c.def_ 9 (d := hd_is_right) rfl
  obtain ⟨fd_lets, F_lets⟩ := c.def_ 10 (d := hd_lets) rfl
  obtain ⟨fd_ways_to_pair, F_ways_to_pair⟩ := c.def_ 11 (d := hd_ways_to_pair) rfl
  obtain ⟨fd_counts_within, F_counts_within⟩ := c.def_ 12 (d := hd_counts_within) rfl
  obtain ⟨fd_how_many, F_how_many⟩ := c.def_ 13 (d := hd_how_many) rfl
  obtain ⟨fd_can_pair, F_can_pair⟩ := c.def_ 14 (d := hd_can_pair) rfl
  obtain ⟨fd_right_ends, F_right_ends⟩ := c.def_ 15 (d := hd_right_ends) rfl
  obtain ⟨fd_open_before, F_open_before⟩ := c.def_ 16 (d := hd_open_before) rfl
  obtain ⟨fd_depths, F_depths⟩ := c.def_ 17 (d := hd_depths) rfl
  obtain ⟨fd_may_go_on, F_may_go_on⟩ := c.def_ 18 (d := hd_may_go_on) rfl
  obtain ⟨fd_fewest_more, F_fewest_more⟩ := c.def_ 19 (d := hd_fewest_more) rfl
  obtain ⟨fd_Begun___init__, F_Begun___init__⟩ := c.def_ 20 (d := hd_Begun___init__) rfl
  obtain ⟨fd_Begun_ways_within, F_Begun_ways_within⟩ := c.def_ 21 (d := hd_Begun_ways_within) rfl
  obtain ⟨fd_Begun_ways_from, F_Begun_ways_from⟩ := c.def_ 22 (d := hd_Begun_ways_from) rfl
  obtain ⟨fd_Begun_ways_with, F_Begun_ways_with⟩ := c.def_ 23 (d := hd_Begun_ways_with) rfl
  obtain ⟨fd_Begun_put, F_Begun_put⟩ := c.def_ 24 (d := hd_Begun_put) rfl
  obtain ⟨fd_nth_filling, F_nth_filling⟩ := c.def_ 25 (d := hd_nth_filling) rfl
  obtain ⟨fd_is_filling, F_is_filling⟩ := c.def_ 26 (d := hd_is_filling) rfl
  obtain ⟨fd_number_of, F_number_of⟩ := c.def_ 27 (d := hd_number_of) rfl
  obtain ⟨fd_changes_at, F_changes_at⟩ := c.def_ 28 (d := hd_changes_at) rfl
  obtain ⟨fd_fewest_changes, F_fewest_changes⟩ := c.def_ 29 (d := hd_fewest_changes) rfl
  obtain ⟨fd_turned, F_turned⟩ := c.def_ 30 (d := hd_turned) rfl
  obtain ⟨fd_costs_by_place, F_costs_by_place⟩ := c.def_ 31 (d := hd_costs_by_place) rfl
  obtain ⟨fd_sums_within, F_sums_within⟩ := c.def_ 32 (d := hd_sums_within) rfl
  obtain ⟨fd_sum_of, F_sum_of⟩ := c.def_ 33 (d := hd_sum_of) rfl
  obtain ⟨fd_costs_of, F_costs_of⟩ := c.def_ 34 (d := hd_costs_of) rfl
  obtain ⟨fd_need_filling, F_need_filling⟩ := c.def_ 35 (d := hd_need_filling) rfl
  obtain ⟨fd_pairs_of, F_pairs_of⟩ := c.def_ 36 (d := hd_pairs_of) rfl
  obtain ⟨fd_around, F_around⟩ := c.def_ 37 (d := hd_around) rfl
  obtain ⟨fd_partner_ways, F_partner_ways⟩ := c.def_ 38 (d := hd_partner_ways) rfl
  obtain ⟨fd_counts_by_place, F_counts_by_place⟩ := c.def_ 39 (d := hd_counts_by_place) rfl
  obtain ⟨fd_sure_places, F_sure_places⟩ := c.def_ 40 (d := hd_sure_places) rfl
  obtain ⟨fd_is_name, F_is_name⟩ := c.def_ 41 (d := hd_is_name) rfl
  obtain ⟨fd_is_number, F_is_number⟩ := c.def_ 42 (d := hd_is_number) rfl
  obtain ⟨fd_parted, F_parted⟩ := c.def_ 43 (d := hd_parted) rfl
  obtain ⟨fd_shown, F_shown⟩ := c.def_ 44 (d := hd_shown) rfl
  obtain ⟨fd_Desk___init__, F_Desk___init__⟩ := c.def_ 45 (d := hd_Desk___init__) rfl
  obtain ⟨fd_Desk_names, F_Desk_names⟩ := c.def_ 46 (d := hd_Desk_names) rfl
  obtain ⟨fd_Desk_row_by, F_Desk_row_by⟩ := c.def_ 47 (d := hd_Desk_row_by) rfl
  obtain ⟨fd_Desk_put_in, F_Desk_put_in⟩ := c.def_ 48 (d := hd_Desk_put_in) rfl
  obtain ⟨fd_Desk_deed, F_Desk_deed⟩ := c.def_ 49 (d := hd_Desk_deed) rfl
  obtain ⟨fd_Desk_sure_row, F_Desk_sure_row⟩ := c.def_ 50 (d := hd_Desk_sure_row) rfl
  obtain ⟨fd_Desk_counted, F_Desk_counted⟩ := c.def_ 51 (d := hd_Desk_counted) rfl
  obtain ⟨fd_Desk_asked, F_Desk_asked⟩ := c.def_ 52 (d := hd_Desk_asked) rfl
  obtain ⟨fd_Desk_say, F_Desk_say⟩ := c.def_ 53 (d := hd_Desk_say) rfl
  obtain ⟨fd__law_pool, F__law_pool⟩ := c.def_ 54 (d := hd__law_pool) rfl
  obtain ⟨fd__law_draw, F__law_draw⟩ := c.def_ 55 (d := hd__law_draw) rfl
  obtain ⟨fd__law_right_row, F__law_right_row⟩ := c.def_ 56 (d := hd__law_right_row) rfl
  obtain ⟨fd__law_signs, F__law_signs⟩ := c.def_ 57 (d := hd__law_signs) rfl
  obtain ⟨fd__law_bent, F__law_bent⟩ := c.def_ 58 (d := hd__law_bent) rfl
  obtain ⟨fd__law_line, F__law_line⟩ := c.def_ 59 (d := hd__law_line) rfl
  obtain ⟨fd__law_said, F__law_said⟩ := c.def_ 60 (d := hd__law_said) rfl
  obtain ⟨fd__law_names, F__law_names⟩ := c.def_ 61 (d := hd__law_names) rfl
  obtain ⟨fd__law_is_line, F__law_is_line⟩ := c.def_ 62 (d := hd__law_is_line) rfl
  obtain ⟨fd__law_shown, F__law_shown⟩ := c.def_ 63 (d := hd__law_shown) rfl
  obtain ⟨fd__law_word, F__law_word⟩ := c.def_ 64 (d := hd__law_word) rfl
  obtain ⟨fd__law_sure, F__law_sure⟩ := c.def_ 65 (d := hd__law_sure) rfl
  obtain ⟨fd__law_told_of, F__law_told_of⟩ := c.def_ 66 (d := hd__law_told_of) rfl
  obtain ⟨fd__law_due, F__law_due⟩ := c.def_ 67 (d := hd__law_due) rfl
  obtain ⟨fd__law_question, F__law_question⟩ := c.def_ 68 (d := hd__law_question) rfl
  obtain ⟨fd__law_deed, F__law_deed⟩ := c.def_ 69 (d := hd__law_deed) rfl
  obtain ⟨fd__law_asked, F__law_asked⟩ := c.def_ 70 (d := hd__law_asked) rfl
  obtain ⟨fd__law_end, F__law_end⟩ := c.def_ 71 (d := hd__law_end) rfl
  obtain ⟨fd_law, F_law⟩ := c.def_ 72 (d := hd_law) rfl
  have el := hfa.symm.trans (He.glo_ok X G (c.fact 72 (f := .glo "law") rfl))
  cases el
  have b := FunD.bindsA (ps := ["script"]) F_law fun _ _ _ _ _ _ us hl => match us, hl with | [_], _ => rfl
  refine ⟨fd_law, fun s v => b s [v] rfl, fun base _ _ => ?_⟩
  have b__law_word : Binds K fd__law_word ["caught"] [] := F__law_word.bindsN fun _ _ _ _ _ _ us hl => match us, hl with | [_], _ => rfl
  have g_is_whole : Dk P w K mg base CX0 1 "is_whole" ["thing"] spIsWhole := ⟨⟨_, _, He.glo_ok X G (c.fact 12 (f := .glo "is_whole") rfl), F_is_whole.kp, F_is_whole.bindsN fun _ _ _ _ _ _ us hl => match us, hl with | [_], _ => rfl, ok_is_whole T F_is_whole⟩⟩
  have g_need_kinds : Dk P w K mg base CX0 2 "need_kinds" ["k"] spNeedKinds := ⟨⟨_, _, He.glo_ok X G (c.fact 13 (f := .glo "need_kinds") rfl), F_need_kinds.kp, F_need_kinds.bindsN fun _ _ _ _ _ _ us hl => match us, hl with | [_], _ => rfl, ok_need_kinds T F_need_kinds g_is_whole⟩⟩
  have g_brackets_of : Dk P w K mg base CX0 1 "brackets_of" ["k"] spBracketsOf := ⟨⟨_, _, He.glo_ok X G (c.fact 14 (f := .glo "brackets_of") rfl), F_brackets_of.kp, F_brackets_of.bindsN fun _ _ _ _ _ _ us hl => match us, hl with | [_], _ => rfl, ok_brackets_of T F_brackets_of⟩⟩
  have g_is_row_by : Dk P w K mg base CX0 2 "is_row_by" ["k", "thing"] spIsRowBy := ⟨⟨_, _, He.glo_ok X G (c.fact 15 (f := .glo "is_row_by") rfl), F_is_row_by.kp, F_is_row_by.bindsN fun _ _ _ _ _ _ us hl => match us, hl with | [_, _], _ => rfl, ok_is_row_by T F_is_row_by g_brackets_of⟩⟩
  have g_need_line : Dk P w K mg base CX0 3 "need_line" ["k", "row"] spNeedLine := ⟨⟨_, _, He.glo_ok X G (c.fact 16 (f := .glo "need_line") rfl), F_need_line.kp, F_need_line.bindsN fun _ _ _ _ _ _ us hl => match us, hl with | [_, _], _ => rfl, ok_need_line T F_need_line g_need_kinds g_is_row_by⟩⟩
  have g_is_opening : Dk P w K mg base CX0 1 "is_opening" ["bracket"] spIsOpening := ⟨⟨_, _, He.glo_ok X G (c.fact 17 (f := .glo "is_opening") rfl), F_is_opening.kp, F_is_opening.bindsN fun _ _ _ _ _ _ us hl => match us, hl with | [_], _ => rfl, ok_is_opening T F_is_opening⟩⟩
  have g_other_of : Dk P w K mg base CX0 1 "other_of" ["bracket"] spOtherOf := ⟨⟨_, _, He.glo_ok X G (c.fact 18 (f := .glo "other_of") rfl), F_other_of.kp, F_other_of.bindsN fun _ _ _ _ _ _ us hl => match us, hl with | [_], _ => rfl, ok_other_of T F_other_of⟩⟩
  have g_is_line : Dk P w K mg base CX0 3 "is_line" ["k", "thing"] spIsLine := ⟨⟨_, _, He.glo_ok X G (c.fact 20 (f := .glo "is_line") rfl), F_is_line.kp, F_is_line.bindsN fun _ _ _ _ _ _ us hl => match us, hl with | [_, _], _ => rfl, ok_is_line T F_is_line g_need_kinds g_is_row_by⟩⟩
  have g_lets : Dk P w K mg base CX0 1 "lets" ["sign", "bracket"] spLets := ⟨⟨_, _, He.glo_ok X G (c.fact 22 (f := .glo "lets") rfl), F_lets.kp, F_lets.bindsN fun _ _ _ _ _ _ us hl => match us, hl with | [_, _], _ => rfl, ok_lets T F_lets⟩⟩
  have g_ways_to_pair : Dk P w K mg base CX0 2 "ways_to_pair" ["k", "one", "other"] spWays := ⟨⟨_, _, He.glo_ok X G (c.fact 23 (f := .glo "ways_to_pair") rfl), F_ways_to_pair.kp, F_ways_to_pair.bindsN fun _ _ _ _ _ _ us hl => match us, hl with | [_, _, _], _ => rfl, ok_ways_to_pair T F_ways_to_pair g_lets⟩⟩
  have g_counts_within : Dk P w K mg base CX0 3 "counts_within" ["k", "row"] spCounts := ⟨⟨_, _, He.glo_ok X G (c.fact 24 (f := .glo "counts_within") rfl), F_counts_within.kp, F_counts_within.bindsN fun _ _ _ _ _ _ us hl => match us, hl with | [_, _], _ => rfl, ok_counts_within T F_counts_within g_ways_to_pair⟩⟩
  have g_how_many : Dk P w K mg base CX0 4 "how_many" ["k", "row"] spHowMany := ⟨⟨_, _, He.glo_ok X G (c.fact 25 (f := .glo "how_many") rfl), F_how_many.kp, F_how_many.bindsN fun _ _ _ _ _ _ us hl => match us, hl with | [_, _], _ => rfl, ok_how_many T F_how_many g_need_line g_counts_within⟩⟩
  have g_can_pair : Dk P w K mg base CX0 1 "can_pair" ["k", "one", "other"] spCanPair := ⟨⟨_, _, He.glo_ok X G (c.fact 26 (f := .glo "can_pair") rfl), F_can_pair.kp, F_can_pair.bindsN fun _ _ _ _ _ _ us hl => match us, hl with | [_, _, _], _ => rfl, ok_can_pair T F_can_pair⟩⟩
  have g_right_ends : Dk P w K mg base CX0 2 "right_ends" ["k", "row"] spEnds := ⟨⟨_, _, He.glo_ok X G (c.fact 27 (f := .glo "right_ends") rfl), F_right_ends.kp, F_right_ends.bindsN fun _ _ _ _ _ _ us hl => match us, hl with | [_, _], _ => rfl, ok_right_ends T F_right_ends g_can_pair⟩⟩
  have g_open_before : Dk P w K mg base CX0 3 "open_before" ["k", "row"] spOpen := ⟨⟨_, _, He.glo_ok X G (c.fact 28 (f := .glo "open_before") rfl), F_open_before.kp, F_open_before.bindsN fun _ _ _ _ _ _ us hl => match us, hl with | [_, _], _ => rfl, ok_open_before T F_open_before g_right_ends⟩⟩
  have g_partners_of : Dk P w K mg base CX0 2 "partners_of" ["row"] spPartners := ⟨⟨_, _, He.glo_ok X G (c.fact 19 (f := .glo "partners_of") rfl), F_partners_of.kp, F_partners_of.bindsN fun _ _ _ _ _ _ us hl => match us, hl with | [_], _ => rfl, ok_partners_of T F_partners_of g_is_opening g_other_of⟩⟩
  have g_is_right : Dk P w K mg base CX0 4 "is_right" ["k", "row"] spIsRight := ⟨⟨_, _, He.glo_ok X G (c.fact 21 (f := .glo "is_right") rfl), F_is_right.kp, F_is_right.bindsN fun _ _ _ _ _ _ us hl => match us, hl with | [_, _], _ => rfl, ok_is_right T F_is_right g_need_line g_partners_of⟩⟩
  have g_depths : Dk P w K mg base CX0 4 "depths" ["k", "row"] spDepths := ⟨⟨_, _, He.glo_ok X G (c.fact 29 (f := .glo "depths") rfl), F_depths.kp, F_depths.bindsN fun _ _ _ _ _ _ us hl => match us, hl with | [_, _], _ => rfl, ok_depths T F_depths g_need_line g_open_before⟩⟩
  have g_may_go_on : Dk P w K mg base CX0 5 "may_go_on" ["k", "row"] spMayGo := ⟨⟨_, _, He.glo_ok X G (c.fact 30 (f := .glo "may_go_on") rfl), F_may_go_on.kp, F_may_go_on.bindsN fun _ _ _ _ _ _ us hl => match us, hl with | [_, _], _ => rfl, ok_may_go_on T F_may_go_on g_depths⟩⟩
  have g_fewest_more : Dk P w K mg base CX0 5 "fewest_more" ["k", "row"] spMore := ⟨⟨_, _, He.glo_ok X G (c.fact 31 (f := .glo "fewest_more") rfl), F_fewest_more.kp, F_fewest_more.bindsN fun _ _ _ _ _ _ us hl => match us, hl with | [_, _], _ => rfl, ok_fewest_more T F_fewest_more g_depths⟩⟩
  have g_turned : Dk P w K mg base CX0 4 "turned" ["k", "row"] spTurned := ⟨⟨_, _, He.glo_ok X G (c.fact 38 (f := .glo "turned") rfl), F_turned.kp, F_turned.bindsN fun _ _ _ _ _ _ us hl => match us, hl with | [_, _], _ => rfl, ok_turned T F_turned g_need_line g_other_of⟩⟩
  have g_is_filling : Dk P w K mg base CX0 5 "is_filling" ["k", "row", "filling"] spFilling := ⟨⟨_, _, He.glo_ok X G (c.fact 34 (f := .glo "is_filling") rfl), F_is_filling.kp, F_is_filling.bindsN fun _ _ _ _ _ _ us hl => match us, hl with | [_, _, _], _ => rfl, ok_is_filling T F_is_filling g_is_row_by g_is_right g_lets⟩⟩
  have g_Begun_ways_within : Dm P w K mg base CX0 1 (cA K "Begun") "ways_within" ["self", "begin", "end"] (spWithin (cA K "Begun")) := ⟨⟨_, _, hBg.cls, h_meth (c.fact 103 (f := .meth "Begun" "ways_within") rfl), F_Begun_ways_within.bindsN fun _ _ _ _ _ _ us hl => match us, hl with | [_, _, _], _ => rfl, ok_Begun_ways_within T hBg F_Begun_ways_within⟩⟩
  have g_Begun_ways_from : Dm P w K mg base CX0 2 (cA K "Begun") "ways_from" ["self", "kind", "begin"] (spFrom (cA K "Begun")) := ⟨⟨_, _, hBg.cls, h_meth (c.fact 104 (f := .meth "Begun" "ways_from") rfl), F_Begun_ways_from.bindsN fun _ _ _ _ _ _ us hl => match us, hl with | [_, _, _], _ => rfl, ok_Begun_ways_from T hBg F_Begun_ways_from g_lets g_Begun_ways_within⟩⟩
  have g_Begun_ways_with : Dm P w K mg base CX0 3 (cA K "Begun") "ways_with" ["self", "bracket"] (spWith (cA K "Begun")) := ⟨⟨_, _, hBg.cls, h_meth (c.fact 105 (f := .meth "Begun" "ways_with") rfl), F_Begun_ways_with.bindsN fun _ _ _ _ _ _ us hl => match us, hl with | [_, _], _ => rfl, ok_Begun_ways_with T hBg F_Begun_ways_with g_lets g_Begun_ways_from⟩⟩
  have g_Begun_put : Dm P w K mg base CX0 3 (cA K "Begun") "put" ["self", "bracket"] (spPut (cA K "Begun")) := ⟨⟨_, _, hBg.cls, h_meth (c.fact 106 (f := .meth "Begun" "put") rfl), F_Begun_put.bindsN fun _ _ _ _ _ _ us hl => match us, hl with | [_, _], _ => rfl, ok_Begun_put T hBg F_Begun_put g_Begun_ways_from⟩⟩
  have g_Begun : Dc P w K mg base CX0 4 "Begun" (cA K "Begun") ["self", "k", "row"] (spInit (cA K "Begun")) := ⟨⟨_, _, h_glo X G (c.fact 32 (f := .glo "Begun") rfl), h_mkr (c.fact 101 (f := .mkr "Begun") rfl), F_Begun___init__.bindsN fun _ _ _ _ _ _ us hl => match us, hl with | [_, _, _], _ => rfl, ok_Begun___init__ T hBg F_Begun___init__ g_counts_within g_Begun_ways_within⟩⟩
  have g_nth_filling : Dk P w K mg base (L2.CX P w) 6 "nth_filling" ["k", "row", "i"] (spNth (cA K "NoNumber")) := ⟨⟨_, _, He.glo_ok X G (c.fact 33 (f := .glo "nth_filling") rfl), F_nth_filling.kp, F_nth_filling.bindsN fun _ _ _ _ _ _ us hl => match us, hl with | [_, _, _], _ => rfl, ok_nth_filling T F_nth_filling hBg g_need_line g_is_whole g_Begun g_Begun_ways_within g_Begun_ways_with g_Begun_put⟩⟩
  have g_number_of : Dk P w K mg base (L2.CX P w) 6 "number_of" ["k", "row", "filling"] (spNumber (cA K "NotRight")) := ⟨⟨_, _, He.glo_ok X G (c.fact 35 (f := .glo "number_of") rfl), F_number_of.kp, F_number_of.bindsN fun _ _ _ _ _ _ us hl => match us, hl with | [_, _, _], _ => rfl, ok_number_of T F_number_of hBg g_need_line g_is_filling g_Begun g_Begun_ways_with g_Begun_put⟩⟩
  have g_changes_at : Dk P w K mg base CX0 1 "changes_at" ["row", "i", "bracket"] spChg := ⟨⟨_, _, He.glo_ok X G (c.fact 36 (f := .glo "changes_at") rfl), F_changes_at.kp, F_changes_at.bindsN fun _ _ _ _ _ _ us hl => match us, hl with | [_, _, _], _ => rfl, ok_changes_at T F_changes_at⟩⟩
  have g_fewest_changes : Dk P w K mg base CX0 4 "fewest_changes" ["k", "row"] spFewest := ⟨⟨_, _, He.glo_ok X G (c.fact 37 (f := .glo "fewest_changes") rfl), F_fewest_changes.kp, F_fewest_changes.bindsN fun _ _ _ _ _ _ us hl => match us, hl with | [_, _], _ => rfl, ok_fewest_changes T F_fewest_changes g_need_line g_changes_at⟩⟩
  have g_costs_by_place : Dk P w K mg base CX0 1 "costs_by_place" ["k", "row", "weights"] (spCosts K) := ⟨⟨_, _, He.glo_ok X G (c.fact 39 (f := .glo "costs_by_place") rfl), F_costs_by_place.kp, F_costs_by_place.bindsN fun _ _ _ _ _ _ us hl => match us, hl with | [_, _, _], _ => rfl, ok_costs_by_place T F_costs_by_place⟩⟩
  have g_sums_within : Dk P w K mg base CX0 1 "sums_within" ["k", "costs"] spSums := ⟨⟨_, _, He.glo_ok X G (c.fact 40 (f := .glo "sums_within") rfl), F_sums_within.kp, F_sums_within.bindsN fun _ _ _ _ _ _ us hl => match us, hl with | [_, _], _ => rfl, ok_sums_within T F_sums_within⟩⟩
  have g_sum_of : Dk P w K mg base CX0 2 "sum_of" ["k", "costs"] spSumOf := ⟨⟨_, _, He.glo_ok X G (c.fact 41 (f := .glo "sum_of") rfl), F_sum_of.kp, F_sum_of.bindsN fun _ _ _ _ _ _ us hl => match us, hl with | [_, _], _ => rfl, ok_sum_of T F_sum_of g_sums_within⟩⟩
  have g_costs_of : Dk P w K mg base CX0 2 "costs_of" ["k", "row"] spCostsOf := ⟨⟨_, _, He.glo_ok X G (c.fact 42 (f := .glo "costs_of") rfl), F_costs_of.kp, F_costs_of.bindsN fun _ _ _ _ _ _ us hl => match us, hl with | [_, _], _ => rfl, ok_costs_of T F_costs_of g_costs_by_place⟩⟩
  have g_need_filling : Dk P w K mg base (L2.CX P w) 3 "need_filling" ["k", "row"] (spNeedFill (cA K "NoFilling")) := ⟨⟨_, _, He.glo_ok X G (c.fact 43 (f := .glo "need_filling") rfl), F_need_filling.kp, F_need_filling.bindsN fun _ _ _ _ _ _ us hl => match us, hl with | [_, _], _ => rfl, ok_need_filling T F_need_filling g_costs_of g_sum_of⟩⟩
  have g_pairs_of : Dk P w K mg base CX0 1 "pairs_of" ["k", "costs", "i", "j"] spPairs := ⟨⟨_, _, He.glo_ok X G (c.fact 44 (f := .glo "pairs_of") rfl), F_pairs_of.kp, F_pairs_of.bindsN fun _ _ _ _ _ _ us hl => match us, hl with | [_, _, _, _], _ => rfl, ok_pairs_of T F_pairs_of⟩⟩
  have g_around : Dk P w K mg base CX0 2 "around" ["k", "costs", "sums", "ways", "i", "j"] spAround := ⟨⟨_, _, He.glo_ok X G (c.fact 45 (f := .glo "around") rfl), F_around.kp, F_around.bindsN fun _ _ _ _ _ _ us hl => match us, hl with | [_, _, _, _, _, _], _ => rfl, ok_around T F_around g_pairs_of⟩⟩
  have g_partner_ways : Dk P w K mg base CX0 3 "partner_ways" ["k", "row"] spPartW := ⟨⟨_, _, He.glo_ok X G (c.fact 46 (f := .glo "partner_ways") rfl), F_partner_ways.kp, F_partner_ways.bindsN fun _ _ _ _ _ _ us hl => match us, hl with | [_, _], _ => rfl, ok_partner_ways T F_partner_ways g_costs_of g_sums_within g_around⟩⟩
  have g_counts_by_place : Dk P w K mg base CX0 4 "counts_by_place" ["k", "row"] spCBP := ⟨⟨_, _, He.glo_ok X G (c.fact 47 (f := .glo "counts_by_place") rfl), F_counts_by_place.kp, F_counts_by_place.bindsN fun _ _ _ _ _ _ us hl => match us, hl with | [_, _], _ => rfl, ok_counts_by_place T F_counts_by_place g_costs_of g_partner_ways⟩⟩
  have g_sure_places : Dk P w K mg base (L2.CX P w) 5 "sure_places" ["k", "row"] (spSure (cA K "NoFilling")) := ⟨⟨_, _, He.glo_ok X G (c.fact 48 (f := .glo "sure_places") rfl), F_sure_places.kp, F_sure_places.bindsN fun _ _ _ _ _ _ us hl => match us, hl with | [_, _], _ => rfl, ok_sure_places T F_sure_places g_need_line g_need_filling g_counts_by_place⟩⟩
  have g_is_name : Dk P w K mg base CX0 1 "is_name" ["word"] spIsName := ⟨⟨_, _, He.glo_ok X G (c.fact 49 (f := .glo "is_name") rfl), F_is_name.kp, F_is_name.bindsN fun _ _ _ _ _ _ us hl => match us, hl with | [_], _ => rfl, ok_is_name T F_is_name⟩⟩
  have g_is_number : Dk P w K mg base CX0 1 "is_number" ["word"] spIsNumber := ⟨⟨_, _, He.glo_ok X G (c.fact 50 (f := .glo "is_number") rfl), F_is_number.kp, F_is_number.bindsN fun _ _ _ _ _ _ us hl => match us, hl with | [_], _ => rfl, ok_is_number T F_is_number⟩⟩
  have g_shown : Dk P w K mg base CX0 1 "shown" ["row"] spShown := ⟨⟨_, _, He.glo_ok X G (c.fact 52 (f := .glo "shown") rfl), F_shown.kp, F_shown.bindsN fun _ _ _ _ _ _ us hl => match us, hl with | [_], _ => rfl, ok_shown T F_shown⟩⟩
  have g_parted : Dk P w K mg base (L2.CX P w) 2 "parted" ["row"] (spParted (cA K "NoRow")) := ⟨⟨_, _, He.glo_ok X G (c.fact 51 (f := .glo "parted") rfl), F_parted.kp, F_parted.bindsN fun _ _ _ _ _ _ us hl => match us, hl with | [_], _ => rfl, ok_parted T hFT F_parted g_is_name g_is_number⟩⟩
  have g_Desk : Dc P w K mg base CX0 1 "Desk" (cA K "Desk") ["self"] (spDInit (cA K "Desk")) := ⟨⟨_, _, h_glo X G (c.fact 53 (f := .glo "Desk") rfl), h_mkr (c.fact 108 (f := .mkr "Desk") rfl), F_Desk___init__.bindsN fun _ _ _ _ _ _ us hl => match us, hl with | [_], _ => rfl, ok_Desk___init__ T hDk F_Desk___init__⟩⟩
  have g_Desk_names : Dm P w K mg base CX0 1 (cA K "Desk") "names" ["self"] (spDNames (cA K "Desk")) := ⟨⟨_, _, hDk.cls, h_meth (c.fact 110 (f := .meth "Desk" "names") rfl), F_Desk_names.bindsN fun _ _ _ _ _ _ us hl => match us, hl with | [_], _ => rfl, ok_Desk_names T hDk F_Desk_names⟩⟩
  have g_Desk_row_by : Dm P w K mg base (L2.CX P w) 1 (cA K "Desk") "row_by" ["self", "name"] (spRowBy (cA K "Desk") (cA K "NoName")) := ⟨⟨_, _, hDk.cls, h_meth (c.fact 111 (f := .meth "Desk" "row_by") rfl), F_Desk_row_by.bindsN fun _ _ _ _ _ _ us hl => match us, hl with | [_, _], _ => rfl, ok_Desk_row_by T hDk F_Desk_row_by⟩⟩
  have g_Desk_put_in : Dm P w K mg base (L2.CX P w) 4 (cA K "Desk") "put_in" ["self", "name", "row"] (spPutIn (cA K "Desk") (cA K "NoLine")) := ⟨⟨_, _, hDk.cls, h_meth (c.fact 112 (f := .meth "Desk" "put_in") rfl), F_Desk_put_in.bindsN fun _ _ _ _ _ _ us hl => match us, hl with | [_, _, _], _ => rfl, ok_Desk_put_in T hDk F_Desk_put_in g_is_line⟩⟩
  have g_Desk_sure_row : Dm P w K mg base (L2.CX P w) 6 (cA K "Desk") "sure_row" ["self", "row"] (spSureRow (cA K "Desk") (cA K "NoFilling")) := ⟨⟨_, _, hDk.cls, h_meth (c.fact 114 (f := .meth "Desk" "sure_row") rfl), F_Desk_sure_row.bindsN fun _ _ _ _ _ _ us hl => match us, hl with | [_, _], _ => rfl, ok_Desk_sure_row T hDk F_Desk_sure_row g_sure_places⟩⟩
  have g_Desk_counted : Dm P w K mg base (L2.CX P w) 7 (cA K "Desk") "counted" ["self", "words", "row"] (spCounted K (cA K "Desk")) := ⟨⟨_, _, hDk.cls, h_meth (c.fact 115 (f := .meth "Desk" "counted") rfl), F_Desk_counted.bindsN fun _ _ _ _ _ _ us hl => match us, hl with | [_, _, _], _ => rfl, ok_Desk_counted T hDk F_Desk_counted g_how_many g_number_of g_fewest_changes g_fewest_more g_shown⟩⟩
  have g_Desk_deed : Dm P w K mg base (L2.CX P w) 5 (cA K "Desk") "deed" ["self", "words"] (spDeed K (cA K "Desk")) := ⟨⟨_, _, hDk.cls, h_meth (c.fact 113 (f := .meth "Desk" "deed") rfl), F_Desk_deed.bindsN fun _ _ _ _ _ _ us hl => match us, hl with | [_, _], _ => rfl, ok_Desk_deed T hDk F_Desk_deed g_need_kinds g_turned g_Desk_row_by g_Desk_put_in⟩⟩
  have g_Desk_asked : Dm P w K mg base (L2.CX P w) 8 (cA K "Desk") "asked" ["self", "words"] (spAsked K (cA K "Desk")) := ⟨⟨_, _, hDk.cls, h_meth (c.fact 116 (f := .meth "Desk" "asked") rfl), F_Desk_asked.bindsN fun _ _ _ _ _ _ us hl => match us, hl with | [_, _], _ => rfl, ok_Desk_asked T hDk F_Desk_asked g_is_line g_is_right g_may_go_on g_nth_filling g_shown g_Desk_row_by g_Desk_sure_row g_Desk_counted⟩⟩
  have g_Desk_say : Dm P w K mg base (L2.CX P w) 9 (cA K "Desk") "say" ["self", "row"] (spSay K (cA K "Desk")) := ⟨⟨_, _, hDk.cls, h_meth (c.fact 117 (f := .meth "Desk" "say") rfl), F_Desk_say.bindsN fun _ _ _ _ _ _ us hl => match us, hl with | [_, _], _ => rfl, ok_Desk_say T hDk F_Desk_say g_parted g_Desk_names g_Desk_deed g_Desk_asked⟩⟩
  have g__law_pool : Dk P w K mg base CX0 1 "_law_pool" ["script", "k"] (spPool K) := ⟨⟨_, _, He.glo_ok X G (c.fact 54 (f := .glo "_law_pool") rfl), F__law_pool.kp, F__law_pool.bindsN fun _ _ _ _ _ _ us hl => match us, hl with | [_, _], _ => rfl, ok__law_pool T F__law_pool⟩⟩
  have g__law_draw : Dk P w K mg base CX0 1 "_law_draw" ["pool", "many"] spDraw := ⟨⟨_, _, He.glo_ok X G (c.fact 55 (f := .glo "_law_draw") rfl), F__law_draw.kp, F__law_draw.bindsN fun _ _ _ _ _ _ us hl => match us, hl with | [_, _], _ => rfl, ok__law_draw T F__law_draw⟩⟩
  have g__law_signs : Dk P w K mg base CX0 1 "_law_signs" ["k"] spSigns := ⟨⟨_, _, He.glo_ok X G (c.fact 57 (f := .glo "_law_signs") rfl), F__law_signs.kp, F__law_signs.bindsN fun _ _ _ _ _ _ us hl => match us, hl with | [_], _ => rfl, ok__law_signs T F__law_signs⟩⟩
  have g__law_shown : Dk P w K mg base CX0 1 "_law_shown" ["row"] spLShown := ⟨⟨_, _, He.glo_ok X G (c.fact 63 (f := .glo "_law_shown") rfl), F__law_shown.kp, F__law_shown.bindsN fun _ _ _ _ _ _ us hl => match us, hl with | [_], _ => rfl, ok__law_shown T F__law_shown⟩⟩
  have g__law_is_line : Dk P w K mg base CX0 1 "_law_is_line" ["k", "row"] spLLine := ⟨⟨_, _, He.glo_ok X G (c.fact 62 (f := .glo "_law_is_line") rfl), F__law_is_line.kp, F__law_is_line.bindsN fun _ _ _ _ _ _ us hl => match us, hl with | [_, _], _ => rfl, ok__law_is_line T F__law_is_line⟩⟩
  have g__law_right_row : Dk P w K mg base CX0 2 "_law_right_row" ["pool", "k", "pairs"] spRightRow := ⟨⟨_, _, He.glo_ok X G (c.fact 56 (f := .glo "_law_right_row") rfl), F__law_right_row.kp, F__law_right_row.bindsN fun _ _ _ _ _ _ us hl => match us, hl with | [_, _, _], _ => rfl, ok__law_right_row T F__law_right_row g__law_draw⟩⟩
  have g__law_bent : Dk P w K mg base CX0 2 "_law_bent" ["pool", "k", "row", "often"] spBent := ⟨⟨_, _, He.glo_ok X G (c.fact 58 (f := .glo "_law_bent") rfl), F__law_bent.kp, F__law_bent.bindsN fun _ _ _ _ _ _ us hl => match us, hl with | [_, _, _, _], _ => rfl, ok__law_bent T F__law_bent g__law_draw g__law_signs⟩⟩
  have g__law_line : Dk P w K mg base CX0 3 "_law_line" ["pool", "k", "most"] spLine := ⟨⟨_, _, He.glo_ok X G (c.fact 59 (f := .glo "_law_line") rfl), F__law_line.kp, F__law_line.bindsN fun _ _ _ _ _ _ us hl => match us, hl with | [_, _, _], _ => rfl, ok__law_line T F__law_line g__law_draw g__law_signs g__law_right_row g__law_bent⟩⟩
  have g__law_names : Dk P w K mg base CX0 2 "_law_names" ["pool"] spNames := ⟨⟨_, _, He.glo_ok X G (c.fact 61 (f := .glo "_law_names") rfl), F__law_names.kp, F__law_names.bindsN fun _ _ _ _ _ _ us hl => match us, hl with | [_], _ => rfl, ok__law_names T F__law_names g__law_draw⟩⟩
  have g__law_sure : Dk P w K mg base (L2.CX P w) 6 "_law_sure" ["k", "row"] (spLSure (cA K "NoFilling")) := ⟨⟨_, _, He.glo_ok X G (c.fact 65 (f := .glo "_law_sure") rfl), F__law_sure.kp, F__law_sure.bindsN fun _ _ _ _ _ _ us hl => match us, hl with | [_, _], _ => rfl, ok__law_sure T F__law_sure g_sure_places⟩⟩
  have g__law_told_of : Dk P w K mg base (L2.CX P w) 7 "_law_told_of" ["k", "head", "row", "more"] (spTold K) := ⟨⟨_, _, He.glo_ok X G (c.fact 66 (f := .glo "_law_told_of") rfl), F__law_told_of.kp, F__law_told_of.bindsN fun _ _ _ _ _ _ us hl => match us, hl with | [_, _, _, _], _ => rfl, ok__law_told_of T F__law_told_of g_is_right g_may_go_on g_how_many g_nth_filling g_number_of g__law_shown g__law_sure g_fewest_changes g_fewest_more⟩⟩
  have g__law_due : Dk P w K mg base CX0 8 "_law_due" ["k", "head", "row", "more"] (spDue K) := ⟨⟨_, _, He.glo_ok X G (c.fact 67 (f := .glo "_law_due") rfl), F__law_due.kp, F__law_due.bindsN fun _ _ _ _ _ _ us hl => match us, hl with | [_, _, _, _], _ => rfl, ok__law_due T hET F__law_due g__law_is_line g__law_told_of F__law_word (He.glo_ok X G (c.fact 64 (f := .glo "_law_word") rfl)) b__law_word⟩⟩
  have g__law_said : Dk P w K mg base CX0 10 "_law_said" ["desk", "row"] (spSaid (cA K "Desk")) := ⟨⟨_, _, He.glo_ok X G (c.fact 60 (f := .glo "_law_said") rfl), F__law_said.kp, F__law_said.bindsN fun _ _ _ _ _ _ us hl => match us, hl with | [_, _], _ => rfl, ok__law_said T hET F__law_said g_Desk_say⟩⟩
  have g__law_question : Dk P w K mg base (L2.CX P w) 7 "_law_question" ["pool", "k", "row"] spQuestion := ⟨⟨_, _, He.glo_ok X G (c.fact 68 (f := .glo "_law_question") rfl), F__law_question.kp, F__law_question.bindsN fun _ _ _ _ _ _ us hl => match us, hl with | [_, _, _], _ => rfl, ok__law_question T F__law_question g__law_draw g__law_signs g_how_many g_nth_filling⟩⟩
  have g__law_deed : Dk P w K mg base CX0 5 "_law_deed" ["pool", "state", "names", "most"] spLDeed := ⟨⟨_, _, He.glo_ok X G (c.fact 69 (f := .glo "_law_deed") rfl), F__law_deed.kp, F__law_deed.bindsN fun _ _ _ _ _ _ us hl => match us, hl with | [_, _, _, _], _ => rfl, ok__law_deed T F__law_deed g__law_draw g__law_line g_turned⟩⟩
  have g__law_asked : Dk P w K mg base (L2.CX P w) 9 "_law_asked" ["pool", "state", "names"] spLAsk := ⟨⟨_, _, He.glo_ok X G (c.fact 70 (f := .glo "_law_asked") rfl), F__law_asked.kp, F__law_asked.bindsN fun _ _ _ _ _ _ us hl => match us, hl with | [_, _, _], _ => rfl, ok__law_asked T F__law_asked g__law_draw g__law_question g__law_due⟩⟩
  have g__law_end : Dk P w K mg base (L2.CX P w) 10 "_law_end" ["desk", "kept"] (spEnd (cA K "Desk")) := ⟨⟨_, _, He.glo_ok X G (c.fact 71 (f := .glo "_law_end") rfl), F__law_end.kp, F__law_end.bindsN fun _ _ _ _ _ _ us hl => match us, hl with | [_, _], _ => rfl, ok__law_end T F__law_end g_Desk_names g_Desk_say g__law_shown⟩⟩
  exact ok_law T F_law g_Desk g__law_pool g__law_draw g__law_names g__law_deed g__law_asked g__law_said g__law_end
end BR
set_option Elab.async false
set_option linter.all false
set_option maxRecDepth 100000
set_option maxHeartbeats 0
/-! HE: the end -/
namespace BR
open PySem PySem.Spec PyProof.Rows L2
/-- an exception, in whichever world -/
def hCX (P : Program) : CXT := fun o H s E u s' => ∃ w : World, L2.CX P w o H s E u s'
theorem up_CX {P : Program} {w : World} {K : PySem.W.Frag} {mg : Str → Option Value} {base : Heap} {k : Nat} {f : Addr} {fd : FuncData} {ps : List Str} {sp : Sp} (F : FnOk P w K mg base (L2.CX P w) k f fd ps sp) : FnOk P w K mg base (hCX P) k f fd ps sp :=
  ⟨F.len, fun A outer s H args us vs Q E r1 r2 r3 r4 r5 => codeAny_mono (F.run A outer s H args us vs Q E r1 r2 r3 r4 r5) fun res s' g => by
    cases res with
    | ok v => cases v <;> exact g
    | error e => exact ⟨w, g⟩⟩
theorem hCX_no {P : Program} (H : Hp) (s : Shared) (e : Value) (s' : Shared) (h : hCX P [] H s (fun _ _ _ => False) e s') : False := by
  obtain ⟨w, _, _, _, _, _, _, _, _, _, _, _, _, z⟩ := h
  exact z
end BR
open PySem PySem.W PySem.Calls PyProof.Rows
theorem PySem.Challenge.cw_bracketrows_k50_whole_a_long_day_holds : PySem.Challenge.rw_bracketrows_k50_whole_a_long_day.Holds := by
  w_on; o_law
  refine HandSHeadRun.head_any (r := OpenLaw.row PySem.Challenge.rw_bracketrows_k50_whole_a_long_day) (q := view (OpenLaw.row PySem.Challenge.rw_bracketrows_k50_whole_a_long_day).prog [96]) (H := BR.hHk) (ob := BR.hOb) (M := 6000) (loose := BR.hLoose)
    (d := HandSHeadRun.topDef (OpenLaw.row PySem.Challenge.rw_bracketrows_k50_whole_a_long_day).prog 96) (kwd := []) BR.hOb_eq (by kernel_rfl) (fun s => by kernel_rfl) BR.hRun (by kernel_rfl) (by kernel_rfl) (by kernel_rfl) (by rfl) (by first | assumption | decide +kernel) (by decide +kernel) ⟨rfl, rfl, rfl, rfl, rfl, by decide +kernel⟩ ?hw ?hc
  case hw => w_witness2
  case hc =>
    refine L2.walk_ofE (l := PySem.Challenge.rw_bracketrows_k50_whole_a_long_day) (n := 63) (k := 11) (x := "script") (CX := BR.hCX (PySem.Challenge.rw_bracketrows_k50_whole_a_long_day).prog) rfl (by decide) (by kernel_rfl) ⟨by decide, by decide, by decide⟩ ?F BR.hCX_no
    intro w mg fa h Y G hmg0
    obtain ⟨K, KX, ct, ce⟩ := Y
    have hmg : mg ("law" : PySem.Str) = some (.ref fa) := by
      have e : (HandSHeadRun.topDef (OpenLaw.row PySem.Challenge.rw_bracketrows_k50_whole_a_long_day).prog 96).name = ("law" : PySem.Str) := by kernel_rfl
      rw [← e]
      exact hmg0
    obtain ⟨fd, hb, hF⟩ := BR.hFacts (P := (PySem.Challenge.rw_bracketrows_k50_whole_a_long_day).prog) (w := w) KX G hmg ct ce
    exact ⟨K, fd, BR.spLaw K, KX, hb, fun H a ns hl _ hS => ⟨a, ns, rfl, hS, hl, fun _ => rfl⟩, fun base h1 h2 => BR.up_CX (hF base h1 h2)⟩
