import PyProof.Rows.All
import Wide.All
import OpenK.AllK
import Wide.FinOn
import HandS.ForMost
import HandS.ForExc
import HandS.Evl
import HandS.Style
import HandS.StrMore
import HandS.DictTup
import KE.SortData
import KE.KDictSum
import HandS.Defaults
import PySem.Challenge.RW_keepwright_k63_whole_days_at_any_size
import HandS.MapSum
import KE.DataEq
import HandS.AnyAll
import HandS.Nested
import PyProof.GenCompD
import KE.KTryMore
import HandS.TryOnly
import HandS.ListItems
import HandS.Lambda
import KE.KEqDict
import KE.KDictZip
import KE.KTurns
import HandS.DictComp
import PyProof.Rows.StrRev
import KE.KeyNested
import HandS.TupLen
import HandS.Conv
import HandS.HeadHook4
import HandS.HeadWalk

set_option Elab.async false
set_option maxRecDepth 100000
set_option maxHeartbeats 4000000
/-! Kw0: calls by name, built-ins by kind, facts that stay in greater heaps. -/
namespace Kw
open PySem PySem.Spec PyProof.Rows L2 Evl

/-! ### calls of the module's defs, methods, classes -/
section
variable (P : Program) (w : World) (K : PySem.W.Frag) (mg : Str → Option Value) (base : Heap)
/-- the def called x keeps the promise sp at level k -/
def CallOk (k : Nat) (x : Str) (ps : List Str) (sp : Sp) : Prop :=
  ∃ (f : Addr) (fd : FuncData), FnOk P w K mg base (L2.CX P w) k f fd ps sp ∧ mg x = some (.ref f) ∧ PySem.W.keepIn K (.ref f) = true ∧ Binds K fd ps []
/-- so does the method m of the class at C -/
def MethOk (C : Addr) (k : Nat) (m : Str) (ps : List Str) (sp : Sp) : Prop :=
  ∃ (f : Addr) (fd : FuncData), FnOk P w K mg base (L2.CX P w) k f fd ps sp ∧ Meth K C m f ∧ Binds K fd ps []
/-- the class x at C is made by its __init__ -/
def MakeOk (C : Addr) (k : Nat) (x : Str) (ps : List Str) (dvs : List V) (sp : Sp) : Prop :=
  ∃ (f : Addr) (fd : FuncData) (ds : List Value), FnOk P w K mg base (L2.CX P w) k f fd ps sp ∧ Mk K C f ∧ mg x = some (.ref C) ∧ Binds K fd ps ds ∧ Vals dvs ds
end
section
variable {P : Program} {w : World} {K : PySem.W.Frag} {mg : Str → Option Value} {base : Heap} {k j : Nat} {x m : Str} {ps : List Str} {sp sp' : Sp} {C : Addr}
theorem CallOk.mono (c : CallOk P w K mg base j x ps sp) (h : j ≤ k) : CallOk P w K mg base k x ps sp :=
  let ⟨f, fd, a, r⟩ := c; ⟨f, fd, a.mono h, r⟩
theorem MethOk.mono (c : MethOk P w K mg base C j m ps sp) (h : j ≤ k) : MethOk P w K mg base C k m ps sp :=
  let ⟨f, fd, a, r⟩ := c; ⟨f, fd, a.mono h, r⟩
theorem CallOk.imp (c : CallOk P w K mg base k x ps sp) (h : ∀ vs H Q E, sp' vs H Q E → sp vs H Q E) : CallOk P w K mg base k x ps sp' :=
  let ⟨f, fd, a, r⟩ := c; ⟨f, fd, a.imp h, r⟩
theorem MethOk.imp (c : MethOk P w K mg base C k m ps sp) (h : ∀ vs H Q E, sp' vs H Q E → sp vs H Q E) : MethOk P w K mg base C k m ps sp' :=
  let ⟨f, fd, a, r⟩ := c; ⟨f, fd, a.imp h, r⟩
end
section
variable {X : Cx} {k : Nat} {x m : Str} {ps : List Str} {dvs : List V} {sp : Sp} {C : Addr} {e o : Expr} {es : List Expr} {t : TA} {to : TE} {p pos apos : Pos}
theorem pe_c (c : CallOk X.prog X.w X.K X.mg X.base k x ps sp) (hr : Room k X.A) (hg : Gl X x) (ha : PA X (e :: es) t) (hdb : (x == ("__debug__" : Str)) = false := by decide)
    (he : starEach (e :: es) X.env = (false, eval e X.env) :: starEach es X.env := by rfl) (hpl : (backTo pos (starEach es X.env)).any (·.1) = false := by rfl) :
    PE X (.Call (.Name x p) (e :: es) [] pos) (tCall sp [] E0 t) := by
  obtain ⟨f, fd, F, hm, hk, hb⟩ := c
  exact pe_call F hr hg hm hk hb .nil passL ha hdb he hpl
theorem pe_cX {E : XK} (c : CallOk X.prog X.w X.K X.mg X.base k x ps sp) (hr : Room k X.A) (hg : Gl X x) (hx : Passes (L2.CX X.prog X.w) X E) (ha : PA X (e :: es) t) (hdb : (x == ("__debug__" : Str)) = false := by decide)
    (he : starEach (e :: es) X.env = (false, eval e X.env) :: starEach es X.env := by rfl) (hpl : (backTo pos (starEach es X.env)).any (·.1) = false := by rfl) :
    PE X (.Call (.Name x p) (e :: es) [] pos) (tCall sp [] E t) := by
  obtain ⟨f, fd, F, hm, hk, hb⟩ := c
  exact pe_call F hr hg hm hk hb .nil hx ha hdb he hpl
theorem pe_mX {E : XK} {pl : Sem Bool} (c : Cls X.K C) (M : MethOk X.prog X.w X.K X.mg X.base C k m ps sp) (hr : Room k X.A) (hx : Passes (L2.CX X.prog X.w) X E) (ho : PE X o to) (ha : PA X (e :: es) t)
    (hst : starEach (e :: es) X.env = (false, eval e X.env) :: starEach es X.env := by rfl) (hpl : (backTo pos (starEach es X.env)).any (·.1) = false := by rfl)
    (ht : eval (.Call (.Attribute o m apos) (e :: es) [] pos) X.env = (do
      let ov ← eval o X.env
      standAt apos.atName
      let (f, first) ← holding [ov] (getMethod ov m pl)
      callWith pos f first (backTo pos (starEach (e :: es) X.env)) (backToKw pos (keywordEach [] X.env))) := by rfl) :
    PE X (.Call (.Attribute o m apos) (e :: es) [] pos) (tMeth C m sp [] E to t) := by
  obtain ⟨f, fd, F, hm, hb⟩ := M
  exact pe_meth ho c hm F hr hb .nil hx ha hst hpl ht
theorem pe_c0 (c : CallOk X.prog X.w X.K X.mg X.base k x ps sp) (hr : Room k X.A) (hg : Gl X x) (hdb : (x == ("__debug__" : Str)) = false := by decide) :
    PE X (.Call (.Name x p) [] [] pos) (tCall sp [] E0 tNil) := by
  obtain ⟨f, fd, F, hm, hk, hb⟩ := c
  exact pe_call0 F hr hg hm hk hb .nil passL hdb
theorem pe_m {pl : Sem Bool} (c : Cls X.K C) (M : MethOk X.prog X.w X.K X.mg X.base C k m ps sp) (hr : Room k X.A) (ho : PE X o to) (ha : PA X (e :: es) t)
    (hst : starEach (e :: es) X.env = (false, eval e X.env) :: starEach es X.env := by rfl) (hpl : (backTo pos (starEach es X.env)).any (·.1) = false := by rfl)
    (ht : eval (.Call (.Attribute o m apos) (e :: es) [] pos) X.env = (do
      let ov ← eval o X.env
      standAt apos.atName
      let (f, first) ← holding [ov] (getMethod ov m pl)
      callWith pos f first (backTo pos (starEach (e :: es) X.env)) (backToKw pos (keywordEach [] X.env))) := by rfl) :
    PE X (.Call (.Attribute o m apos) (e :: es) [] pos) (tMeth C m sp [] E0 to t) := by
  obtain ⟨f, fd, F, hm, hb⟩ := M
  exact pe_meth ho c hm F hr hb .nil passL ha hst hpl ht
theorem pe_m0 {pl : Sem Bool} (c : Cls X.K C) (M : MethOk X.prog X.w X.K X.mg X.base C k m ps sp) (hr : Room k X.A) (ho : PE X o to)
    (ht : eval (.Call (.Attribute o m apos) [] [] pos) X.env = (do
      let ov ← eval o X.env
      standAt apos.atName
      let (f, first) ← holding [ov] (getMethod ov m pl)
      callWith pos f first (backTo pos (starEach [] X.env)) (backToKw pos (keywordEach [] X.env))) := by rfl) :
    PE X (.Call (.Attribute o m apos) [] [] pos) (tMeth C m sp [] E0 to tNil) := by
  obtain ⟨f, fd, F, hm, hb⟩ := M
  exact pe_meth0 ho c hm F hr hb .nil passL ht
theorem pe_k (M : MakeOk X.prog X.w X.K X.mg X.base C k x ps dvs sp) (hr : Room (k + 1) X.A) (hg : Gl X x) (ha : PA X (e :: es) t) (hdb : (x == ("__debug__" : Str)) = false := by decide)
    (he : starEach (e :: es) X.env = (false, eval e X.env) :: starEach es X.env := by rfl) (hpl : (backTo pos (starEach es X.env)).any (·.1) = false := by rfl) :
    PE X (.Call (.Name x p) (e :: es) [] pos) (tMake C sp dvs E0 t) := by
  obtain ⟨f, fd, ds, F, hM, hm, hb, hd⟩ := M
  exact pe_make hM F hr hg hm hb hd passL ha hdb he hpl
theorem pe_k0 (M : MakeOk X.prog X.w X.K X.mg X.base C k x ps dvs sp) (hr : Room (k + 1) X.A) (hg : Gl X x) (hdb : (x == ("__debug__" : Str)) = false := by decide) :
    PE X (.Call (.Name x p) [] [] pos) (tMake C sp dvs E0 tNil) := by
  obtain ⟨f, fd, ds, F, hM, hm, hb, hd⟩ := M
  exact pe_make0 hM F hr hg hm hb hd passL hdb
end

/-! ### the built-ins that the text calls by their names -/
structure Blt (mg : Str → Option Value) : Prop where
  len : mg "len" = none
  range : mg "range" = none
  sorted : mg "sorted" = none
  tuple : mg "tuple" = none
  list : mg "list" = none
  dict : mg "dict" = none
  str : mg "str" = none
  int : mg "int" = none
  ord : mg "ord" = none
  min : mg "min" = none
  max : mg "max" = none
  abs : mg "abs" = none
  any : mg "any" = none
  sum : mg "sum" = none
  map : mg "map" = none
  zip : mg "zip" = none
  enumerate : mg "enumerate" = none
  isinstance : mg "isinstance" = none
/-- what len tells -/
inductive LenD (K : PySem.W.Frag) (H : Hp) : V → Nat → Prop
  | lst {p : Addr} {ys : List V} (h : SqL K H p ys) : LenD K H (.ref p) ys.length
  | tup {p : Addr} {ys : List V} (h : SqT K H p ys) : LenD K H (.ref p) ys.length
  | dic {p : Addr} {kvs : List (Key × V)} (h : Rd H p (.dK kvs)) : LenD K H (.ref p) kvs.length
  | str {z : Str} (h : z.length ≤ sizeLine) : LenD K H (.str z) z.length
theorem LenD.mono {K : PySem.W.Frag} {H H' : Hp} {v : V} {n : Nat} (e : Evl.Ex H H') (h : LenD K H v n) : LenD K H' v n := by
  cases h with
  | lst h => exact .lst (ex_l e h)
  | tup h => exact .tup (ex_t e h)
  | dic h => exact .dic (ex_rd e h)
  | str h => exact .str h
def rLn (K : PySem.W.Frag) : List V → Hp → VK → Prop := fun xs H Q => ∃ v n, xs = [v] ∧ LenD K H v n ∧ Q (.int (n : Int)) H
theorem call_ln {X : Cx} : CallR X (.builtin "len") (rLn X.K) := by
  intro pins s σ H xs us Q I r h
  obtain ⟨v, n, rfl, d, q⟩ := h
  cases d with
  | lst h => exact call_len_seq pins s σ H _ us Q I r ⟨_, _, rfl, .inl h, q⟩
  | tup h => exact call_len_seq pins s σ H _ us Q I r ⟨_, _, rfl, .inr h, q⟩
  | str h => exact call_len_str pins s σ H _ us Q I r ⟨_, rfl, h, q⟩
  | dic h =>
    obtain ⟨u, rfl, ru⟩ := vals1 r
    cases ru
    exact d_len I h fun t s' I' => ⟨.int _, H, I', ⟨t, rfl⟩, q⟩
section
variable {X : Cx} {e e1 e2 : Expr} {te t1 t2 : TE} {p pos : Pos}
/-- the two facts of a written argument list that every built-in's call asks -/
abbrev SE (X : Cx) (e : Expr) (es : List Expr) : Prop := starEach (e :: es) X.env = (false, eval e X.env) :: starEach es X.env
abbrev SP0 (X : Cx) (pos : Pos) (es : List Expr) : Prop := (backTo pos (starEach es X.env)).any (·.1) = false
variable {es : List Expr} {t : TA}
def rOrd : List V → Hp → VK → Prop := fun xs H Q => ∃ x, xs = [.str x] ∧ x.length = 1 ∧ Q (.int (x.cps.getD 0 0 : Nat)) H
def rStrI : List V → Hp → VK → Prop := fun xs H Q => ∃ i, xs = [.int i] ∧ i.natAbs.log2 < 1920 ∧ Q (.str (toString i)) H
def rInt1 : List V → Hp → VK → Prop := fun xs H Q => (∃ i, xs = [.int i] ∧ Q (.int i) H) ∨ ∃ k, xs = [.bl k] ∧ Q (.int (if k then 1 else 0)) H
def rAbs : List V → Hp → VK → Prop := fun xs H Q => ∃ i, xs = [.int i] ∧ Q (.int (if i < 0 then -i else i)) H
def rMax2 : List V → Hp → VK → Prop := fun xs H Q => ∃ i j, xs = [.int i, .int j] ∧ Q (.int (if j > i then j else i)) H
def rMin2 : List V → Hp → VK → Prop := fun xs H Q => ∃ i j, xs = [.int i, .int j] ∧ Q (.int (if j < i then j else i)) H
def rTup (K : PySem.W.Frag) : List V → Hp → VK → Prop := fun xs H Q => ∃ q ys, xs = [.ref q] ∧ ((SqL K H q ys ∧ ∀ l, H l = none → Q (.ref l) (upd H l (.tup ys))) ∨ (SqT K H q ys ∧ Q (.ref q) H))
def rLst (K : PySem.W.Frag) : List V → Hp → VK → Prop := fun xs H Q => ∃ q ys, xs = [.ref q] ∧ (SqL K H q ys ∨ SqT K H q ys) ∧ ∀ l, H l = none → Q (.ref l) (upd H l (.lst ys))
/-- dict of a list of pairs -/
def rDictP (K : PySem.W.Frag) : List V → Hp → VK → Prop := fun xs H Q => ∃ (a : Addr) (ps : List Addr) (kvs : List (Key × V)), xs = [.ref a] ∧ SqL K H a (ps.map V.ref) ∧ Paired (fun p kv => SqT K H p [kV kv.1, kv.2]) ps kvs ∧ ∀ p, H p = none → Q (.ref p) (upd H p (.dK (mergeK [] kvs)))
def rDictC : List V → Hp → VK → Prop := fun xs H Q => ∃ (a : Addr) (kvs : List (Key × V)), xs = [.ref a] ∧ Rd H a (.dK kvs) ∧ ∀ p, H p = none → Q (.ref p) (upd H p (.dK kvs))
theorem call_dictC : CallR X (.type "dict") rDictC := by
  intro pins s σ H xs us Q I r h
  obtain ⟨a, kvs, rfl, hd, q⟩ := h
  obtain ⟨u, rfl, ru⟩ := vals1 r
  cases ru
  exact d_copyOf I hd fun p s' hp I' => ⟨.ref p, _, I', rfl, q p hp⟩
theorem b_len (B : Blt X.mg) (ha : PA X (e :: es) t) (hg : Gl X "len" := by rfl) (he : SE X e es := by rfl) (hp : SP0 X pos es := by rfl) : PE X (.Call (.Name "len" p) (e :: es) [] pos) (tCB (rLn X.K) t) :=
  pe_callB call_ln hg B.len PySem.boot_len ha (by decide) (by decide) he hp
theorem b_lenD (B : Blt X.mg) (ha : PA X (e :: es) t) (hg : Gl X "len" := by rfl) (he : SE X e es := by rfl) (hp : SP0 X pos es := by rfl) : PE X (.Call (.Name "len" p) (e :: es) [] pos) (tCB (rLn X.K) t) :=
  pe_callB call_ln hg B.len PySem.boot_len ha (by decide) (by decide) he hp
theorem b_ord (B : Blt X.mg) (ha : PA X (e :: es) t) (hg : Gl X "ord" := by rfl) (he : SE X e es := by rfl) (hp : SP0 X pos es := by rfl) : PE X (.Call (.Name "ord" p) (e :: es) [] pos) (tCB (rOrd) t) :=
  pe_callB call_ord hg B.ord (by decide +kernel) ha (by decide) (by decide) he hp
theorem b_str (B : Blt X.mg) (ha : PA X (e :: es) t) (hg : Gl X "str" := by rfl) (he : SE X e es := by rfl) (hp : SP0 X pos es := by rfl) : PE X (.Call (.Name "str" p) (e :: es) [] pos) (tCB (rStrI) t) :=
  pe_callTy call_str_int hg B.str (by decide +kernel) ha (by decide) (by decide) he hp
theorem b_int (B : Blt X.mg) (ha : PA X (e :: es) t) (hg : Gl X "int" := by rfl) (he : SE X e es := by rfl) (hp : SP0 X pos es := by rfl) : PE X (.Call (.Name "int" p) (e :: es) [] pos) (tCB (rInt1) t) :=
  pe_callTy call_int1 hg B.int (by decide +kernel) ha (by decide) (by decide) he hp
theorem b_abs (B : Blt X.mg) (ha : PA X (e :: es) t) (hg : Gl X "abs" := by rfl) (he : SE X e es := by rfl) (hp : SP0 X pos es := by rfl) : PE X (.Call (.Name "abs" p) (e :: es) [] pos) (tCB (rAbs) t) :=
  pe_callB call_abs hg B.abs (by decide +kernel) ha (by decide) (by decide) he hp
theorem b_max (B : Blt X.mg) (ha : PA X (e :: es) t) (hc : X.calm = true := by rfl) (hg : Gl X "max" := by rfl) (he : SE X e es := by rfl) (hp : SP0 X pos es := by rfl) : PE X (.Call (.Name "max" p) (e :: es) [] pos) (tCB (rMax2) t) :=
  pe_callB (call_max2 hc) hg B.max (by decide +kernel) ha (by decide) (by decide) he hp
theorem b_min (B : Blt X.mg) (ha : PA X (e :: es) t) (hc : X.calm = true := by rfl) (hg : Gl X "min" := by rfl) (he : SE X e es := by rfl) (hp : SP0 X pos es := by rfl) : PE X (.Call (.Name "min" p) (e :: es) [] pos) (tCB (rMin2) t) :=
  pe_callB (call_min2 hc) hg B.min (by decide +kernel) ha (by decide) (by decide) he hp
theorem b_maxL (B : Blt X.mg) (ha : PA X (e :: es) t) (hc : X.calm = true := by rfl) (hg : Gl X "max" := by rfl) (he : SE X e es := by rfl) (hp : SP0 X pos es := by rfl) : PE X (.Call (.Name "max" p) (e :: es) [] pos) (tCB (rMax X.K) t) :=
  pe_callB (cr_max hc) hg B.max (by decide +kernel) ha (by decide) (by decide) he hp
theorem b_minL (B : Blt X.mg) (ha : PA X (e :: es) t) (hc : X.calm = true := by rfl) (hg : Gl X "min" := by rfl) (he : SE X e es := by rfl) (hp : SP0 X pos es := by rfl) : PE X (.Call (.Name "min" p) (e :: es) [] pos) (tCB (rMin X.K) t) :=
  pe_callB (cr_min hc) hg B.min (by decide +kernel) ha (by decide) (by decide) he hp
theorem b_sum (B : Blt X.mg) (ha : PA X (e :: es) t) (hc : X.calm = true := by rfl) (hg : Gl X "sum" := by rfl) (he : SE X e es := by rfl) (hp : SP0 X pos es := by rfl) : PE X (.Call (.Name "sum" p) (e :: es) [] pos) (tCB (rSum X.K) t) :=
  pe_callB (cr_sum hc) hg B.sum (by decide +kernel) ha (by decide) (by decide) he hp
theorem b_tupleL (B : Blt X.mg) (ha : PA X (e :: es) t) (hg : Gl X "tuple" := by rfl) (he : SE X e es := by rfl) (hp : SP0 X pos es := by rfl) : PE X (.Call (.Name "tuple" p) (e :: es) [] pos) (tCB (rTup X.K) t) :=
  pe_callTy call_tuple_of hg B.tuple (by decide +kernel) ha (by decide) (by decide) he hp
theorem b_tupleT (B : Blt X.mg) (ha : PA X (e :: es) t) (hg : Gl X "tuple" := by rfl) (he : SE X e es := by rfl) (hp : SP0 X pos es := by rfl) : PE X (.Call (.Name "tuple" p) (e :: es) [] pos) (tCB (rTup X.K) t) :=
  pe_callTy call_tuple_of hg B.tuple (by decide +kernel) ha (by decide) (by decide) he hp
theorem b_listL (B : Blt X.mg) (ha : PA X (e :: es) t) (hg : Gl X "list" := by rfl) (he : SE X e es := by rfl) (hp : SP0 X pos es := by rfl) : PE X (.Call (.Name "list" p) (e :: es) [] pos) (tCB (rLst X.K) t) :=
  pe_callTy call_list_of hg B.list (by decide +kernel) ha (by decide) (by decide) he hp
theorem b_listT (B : Blt X.mg) (ha : PA X (e :: es) t) (hg : Gl X "list" := by rfl) (he : SE X e es := by rfl) (hp : SP0 X pos es := by rfl) : PE X (.Call (.Name "list" p) (e :: es) [] pos) (tCB (rLst X.K) t) :=
  pe_callTy call_list_of hg B.list (by decide +kernel) ha (by decide) (by decide) he hp
theorem b_dictL (B : Blt X.mg) (ha : PA X (e :: es) t) (hc : X.calm = true := by rfl) (hg : Gl X "dict" := by rfl) (he : SE X e es := by rfl) (hp : SP0 X pos es := by rfl) : PE X (.Call (.Name "dict" p) (e :: es) [] pos) (tCB (rDictP X.K) t) :=
  pe_callTy (call_dictP hc) hg B.dict (by decide +kernel) ha (by decide) (by decide) he hp
theorem b_dictD (B : Blt X.mg) (ha : PA X (e :: es) t) (hg : Gl X "dict" := by rfl) (he : SE X e es := by rfl) (hp : SP0 X pos es := by rfl) : PE X (.Call (.Name "dict" p) (e :: es) [] pos) (tCB (rDictC) t) :=
  pe_callTy call_dictC hg B.dict (by decide +kernel) ha (by decide) (by decide) he hp

/-! ### methods of texts and lists -/
variable {o : Expr} {to : TE} {apos : Pos}
def rSplit : V → List V → Hp → VK → Prop := fun x xs H Q => ∃ a b, x = .str a ∧ xs = [.str b] ∧ (b.length == 0) = false ∧ a.length + 2 ≤ sizeLine ∧ rNewStrs (Txt.split a b) H Q
theorem s_split (ho : PE X o to) (h : PE X e te) (hs : starEach [e] X.env = [(false, eval e X.env)] := by rfl) (hbase : attributeBase o "split" X.env (eval o X.env) = eval o X.env := by rfl) (hline : (apos.endLine == pos.line) = true := by rfl) :
    PE X (.Call (.Attribute o "split" apos) [e] [] pos) (tM1 rSplit to te) := pe_m1 PySem.F.slot_str_split PySem.F.type_str_split mt_split ho h hs hbase hline
def rPart : V → List V → Hp → VK → Prop := fun x xs H Q => ∃ a b, x = .str a ∧ xs = [.str b] ∧ (b.length == 0) = false ∧ a.length ≤ sizeLine ∧
  ∀ p, H p = none → Q (.ref p) (upd H p (.tup [.str (Txt.partition a b).1, .str (Txt.partition a b).2.1, .str (Txt.partition a b).2.2]))
theorem s_partition (ho : PE X o to) (h : PE X e te) (hs : starEach [e] X.env = [(false, eval e X.env)] := by rfl) (hbase : attributeBase o "partition" X.env (eval o X.env) = eval o X.env := by rfl) (hline : (apos.endLine == pos.line) = true := by rfl) :
    PE X (.Call (.Attribute o "partition" apos) [e] [] pos) (tM1 rPart to te) := pe_m1 PySem.F.slot_str_partition PySem.F.type_str_partition mt_partition ho h hs hbase hline
def rJoin (K : PySem.W.Frag) : V → List V → Hp → VK → Prop := fun x xs H Q => ∃ a p, ∃ ys : List Str, x = .str a ∧ xs = [.ref p] ∧ (SqL K H p (ys.map V.str) ∨ SqT K H p (ys.map V.str)) ∧
  (ys.map (·.length)).sum + ys.length * a.length ≤ 16777216 ∧ Q (.str (Txt.join a ys)) H
theorem s_join (ho : PE X o to) (h : PE X e te) (hs : starEach [e] X.env = [(false, eval e X.env)] := by rfl) (hbase : attributeBase o "join" X.env (eval o X.env) = eval o X.env := by rfl) (hline : (apos.endLine == pos.line) = true := by rfl) :
    PE X (.Call (.Attribute o "join" apos) [e] [] pos) (tM1 (rJoin X.K) to te) := pe_m1 PySem.F.slot_str_join PySem.F.type_str_join mt_join ho h hs hbase hline
def rStrip : V → List V → Hp → VK → Prop := fun x xs H Q => ∃ a b, x = .str a ∧ xs = [.str b] ∧ a.length ≤ sizeLine ∧ Q (.str (Txt.stripChars a b)) H
theorem s_strip (ho : PE X o to) (h : PE X e te) (hs : starEach [e] X.env = [(false, eval e X.env)] := by rfl) (hbase : attributeBase o "strip" X.env (eval o X.env) = eval o X.env := by rfl) (hline : (apos.endLine == pos.line) = true := by rfl) :
    PE X (.Call (.Attribute o "strip" apos) [e] [] pos) (tM1 rStrip to te) := pe_m1 PySem.F.slot_str_strip PySem.F.type_str_strip mt_stripChars ho h hs hbase hline
def rStarts : V → List V → Hp → VK → Prop := fun x xs H Q => ∃ a b, x = .str a ∧ xs = [.str b] ∧ Q (.bl (Txt.startswith a b)) H
theorem s_startswith (ho : PE X o to) (h : PE X e te) (hs : starEach [e] X.env = [(false, eval e X.env)] := by rfl) (hbase : attributeBase o "startswith" X.env (eval o X.env) = eval o X.env := by rfl) (hline : (apos.endLine == pos.line) = true := by rfl) :
    PE X (.Call (.Attribute o "startswith" apos) [e] [] pos) (tM1 rStarts to te) := pe_m1 PySem.F.slot_str_startswith PySem.F.type_str_startswith mt_startswith ho h hs hbase hline
/-! ### in-place on names -/
def ipR (r : R2) : TIp := r
theorem ip_addS : PIp X .Add (fun x y H Q => ∃ i j, x = .str i ∧ y = .str j ∧ i.length + j.length ≤ sizeLine ∧ Q (.str (i ++ j)) H) := iop_add_str
theorem ip_addL : PIp X .Add rExt2 := iop_ext

/-! ### a dict walked: locked, or known already -/
theorem ps_lockU {st : Stmt} {t : TS} (h : PS X st t) : PS X st (fun D σ H => tLock t D σ H ∨ t D σ H) :=
  ⟨fun pins s σ H D I q => q.elim (fun q => (ps_lock h).run pins s σ H D I q) fun q => h.run pins s σ H D I q⟩
theorem pe_lockU {e : Expr} {t : TE} (h : PE X e t) : PE X e (fun σ H Q => tLockE t σ H Q ∨ t σ H Q) :=
  ⟨fun pins s σ H Q I q => q.elim (fun q => (pe_lock h).run pins s σ H Q I q) fun q => h.run pins s σ H Q I q⟩
end
end Kw


set_option Elab.async false
set_option maxRecDepth 100000
set_option maxHeartbeats 4000000
/-! Kw1: dicts locked behind the evaluation of what is walked, unlocked behind the walk. -/
namespace Kw
open PySem PySem.Spec PyProof.Rows L2 Evl

/-- nothing at d was locked at the entry -/
def NF (X : Cx) (d : Addr) : Prop := ∀ (o : Obj) (u : HO), X.H_0 d ≠ some (.frz o u)
/-- a value, then (if wished) the dict that it is is locked -/
def lkP (N : Addr → Prop) (Q : VK) : VK := fun x H1 => Q x H1 ∨ ∃ (d : Addr) (kvs : List (Key × V)), H1 d = some (.dK kvs) ∧ ∀ od, N d → Q x (upd H1 d (.frz od (.dK kvs)))
def lkA (N : Addr → Prop) (te : TE) : TE := fun σ H Q => te σ H (lkP N Q)
/-- done, or done once a lock is taken away -/
def unP (N : Addr → Prop) (G : Hp → Prop) (H : Hp) : Prop := G H ∨ ∃ (d : Addr) (od : Obj) (u : HO), H d = some (.frz od u) ∧ N d ∧ G (upd H d u)
def unD (N : Addr → Prop) (D : Ends) : Ends := ⟨fun σ => unP N (D.nx σ), fun v => unP N (D.rt v), fun σ => unP N (D.bk σ), fun σ => unP N (D.ct σ)⟩
section
variable {X : Cx}
theorem unP_run {pins : List (Addr × Obj)} {σ : L2.St} {H : Hp} {s : Shared} {G : Hp → Prop} (I : Inv X pins σ H s) (h : unP (NF X) G H) : ∃ H', Inv X pins σ H' s ∧ G H' := by
  rcases h with h | ⟨d, od, u, e, n, h⟩
  · exact ⟨H, I, h⟩
  · exact ⟨_, I.unlock e n, h⟩
theorem pe_lkA {e : Expr} {te : TE} (h : PE X e te) : PE X e (lkA (NF X) te) := by
  refine ⟨fun pins s σ H Q I hw => thn (h.run pins s σ H _ I hw) fun v s1 ⟨x, H1, I1, r, q⟩ => ?_⟩
  rcases q with q | ⟨d, kvs, hd, q⟩
  · exact ⟨x, H1, I1, r, q⟩
  · obtain ⟨od, I2⟩ := I1.lock hd True.intro
    exact ⟨x, _, I2, r, q od (I1.nofrz hd True.intro)⟩
theorem ps_un {st : Stmt} {t : TS} (h : PS X st t) : PS X st (fun D σ H => t (unD (NF X) D) σ H) := by
  refine ⟨fun pins s σ H D I hw => thn (h.run pins s σ H _ I hw) fun f s1 q => ?_⟩
  cases f with
  | next => obtain ⟨σ', H', I2, q⟩ := q; obtain ⟨H3, I3, q3⟩ := unP_run I2 q; exact ⟨σ', H3, I3, q3⟩
  | brk => obtain ⟨σ', H', I2, q⟩ := q; obtain ⟨H3, I3, q3⟩ := unP_run I2 q; exact ⟨σ', H3, I3, q3⟩
  | cont => obtain ⟨σ', H', I2, q⟩ := q; obtain ⟨H3, I3, q3⟩ := unP_run I2 q; exact ⟨σ', H3, I3, q3⟩
  | ret v => obtain ⟨x, σ', H', I2, r, q⟩ := q; obtain ⟨H3, I3, q3⟩ := unP_run I2 q; exact ⟨x, σ', H3, I3, r, q3⟩
theorem pe_un {e : Expr} {te : TE} (h : PE X e te) : PE X e (fun σ H Q => te σ H fun v H' => unP (NF X) (Q v) H') := by
  refine ⟨fun pins s σ H Q I hw => thn (h.run pins s σ H _ I hw) fun v s1 ⟨x, H1, I1, r, q⟩ => ?_⟩
  obtain ⟨H3, I3, q3⟩ := unP_run I1 q
  exact ⟨x, H3, I3, r, q3⟩
end

/-- B is H but for the lock at d (or H itself, where another holds it) -/
structure LkB (H B : Hp) (d : Addr) (od : Obj) (kvs : List (Key × V)) : Prop where
  off : ∀ a, a ≠ d → B a = H a
  there : B d = some (.frz od (.dK kvs))
  rd : Rd H d (.dK kvs)
section
variable {K : PySem.W.Frag} {H B : Hp} {d : Addr} {od : Obj} {kvs : List (Key × V)}
theorem LkB.read (l : LkB H B d od kvs) {a : Addr} {u : HO} (h : Rd H a u) (hn : ∀ o w, u ≠ .frz o w) : Rd B a u := by
  by_cases e : a = d
  · subst e
    rcases l.rd with g | ⟨o, g⟩
    · rcases h with h | ⟨o', h⟩
      · rw [g] at h; cases h; exact .inr ⟨_, l.there⟩
      · rw [g] at h; cases h
    · rcases h with h | ⟨o', h⟩
      · rw [g] at h; cases h; exact (hn _ _ rfl).elim
      · rw [g] at h; cases h; exact .inr ⟨_, l.there⟩
  · rcases h with h | ⟨o, h⟩
    · exact .inl (by rw [l.off a e]; exact h)
    · exact .inr ⟨o, by rw [l.off a e]; exact h⟩
theorem LkB.dic (l : LkB H B d od kvs) {a : Addr} {es : List (Key × V)} (h : Rd H a (.dK es)) : Rd B a (.dK es) := l.read h fun _ _ z => nomatch z
theorem LkB.seq (l : LkB H B d od kvs) {a : Addr} {xs : List V} (h : SqL K H a xs) : SqL K B a xs := h.elim (fun h => .inl (l.read h fun _ _ z => nomatch z)) .inr
theorem LkB.tup (l : LkB H B d od kvs) {a : Addr} {xs : List V} (h : SqT K H a xs) : SqT K B a xs := h.elim (fun h => .inl (l.read h fun _ _ z => nomatch z)) .inr
/-- a thing that is no dict stands as it did -/
theorem LkB.as (l : LkB H B d od kvs) {a : Addr} {u : HO} (h : H a = some u) (h1 : ∀ es, u ≠ .dK es) (h2 : ∀ o es, u ≠ .frz o (.dK es)) : B a = some u := by
  have e : a ≠ d := fun e => by
    subst e
    rcases l.rd with g | ⟨o, g⟩
    · rw [h] at g; cases g; exact h1 _ rfl
    · rw [h] at g; cases g; exact h2 _ _ rfl
  rw [l.off a e]; exact h
theorem LkB.no (l : LkB H B d od kvs) {a : Addr} (h : H a = none) : B a = none := by
  have e : a ≠ d := fun e => by
    subst e
    rcases l.rd with g | ⟨o, g⟩ <;> rw [h] at g <;> cases g
  rw [l.off a e]; exact h
theorem LkB.no' (l : LkB H B d od kvs) {a : Addr} (h : B a = none) : H a = none := by
  have e : a ≠ d := fun e => by
    subst e
    rw [l.there] at h; cases h
  rw [← l.off a e]; exact h
/-- the lock away -/
theorem LkB.back (l : LkB H B d od kvs) {H' Hf : Hp} (e : Ex B H') (h1 : ∀ a, a ≠ d → Hf a = H' a) (h2 : Hf d = H d) : Ex H Hf := fun a o h => by
  by_cases q : a = d
  · rw [q, h2, ← q]; exact h
  · rw [h1 a q]; exact e a o (by rw [l.off a q]; exact h)
end
/-- what follows once the lock is away -/
def Away (H1 H' : Hp) (d : Addr) (G : Hp → Prop) : Prop := ∀ Hf : Hp, (∀ a, a ≠ d → Hf a = H' a) → Hf d = H1 d → G Hf
section
variable {H1 : Hp} {d : Addr} {kvs : List (Key × V)} {N : Addr → Prop} {te : TE} {σ : L2.St} {H : Hp} {Q : VK}
/-- the dict's value, with a lock on it from here -/
theorem lk_take (h : Rd H1 d (.dK kvs)) (k : ∀ (od : Obj) (B : Hp), LkB H1 B d od kvs → (∀ (G : Hp → Prop) (H' : Hp), H' d = some (.frz od (.dK kvs)) → Away H1 H' d G → unP N G H') → Q (.ref d) B) :
    lkP N Q (.ref d) H1 := by
  rcases h with h | ⟨o, h⟩
  · refine .inr ⟨d, kvs, h, fun od n => k od _ ⟨fun a e => upd_ne e, upd_same, .inl h⟩ fun G H' e aw => .inr ⟨d, od, _, e, n, aw _ (fun a q => upd_ne q) (by rw [upd_same, h])⟩⟩
  · refine .inl (k o _ ⟨fun _ _ => rfl, h, .inr ⟨o, h⟩⟩ fun G H' e aw => .inl (aw _ (fun _ _ => rfl) (by rw [e, h])))
end
section
variable {σ : L2.St} {H : Hp} {te : TE} {g : TG} {tb : TS} {D : Ends} {N : Addr → Prop} {kvs : List (Key × V)} {C : Addr → Prop}
/-- for k in d -/
theorem s_forK (h : ∀ Q : VK, (∀ d H1, C d → Ex H H1 → Rd H1 d (.dK kvs) → Q (.ref d) H1) → te σ H Q)
    (body : ∀ (d : Addr) (H1 B : Hp) (od : Obj), C d → Ex H H1 → LkB H1 B d od kvs → ∃ Pv : Nat → L2.St → Hp → Prop, Pv 0 σ B ∧ (∀ i σ' H', Pv i σ' H' → H' d = some (.frz od (.dK kvs))) ∧
      (∀ i k v σ' H', kvs[i]? = some (k, v) → Pv i σ' H' → g (kV k) σ' H' fun σ2 H2 => tb { nx := Pv (i + 1), ct := Pv (i + 1), rt := (unD N D).rt, bk := (unD N D).nx } σ2 H2) ∧ (∀ σ' H', Pv kvs.length σ' H' → Away H1 H' d (D.nx σ'))) :
    tFor (iKeys (lkA N te)) g tb (unD N D) σ H := by
  refine h (lkP N _) fun d H1 cd e1 rd => lk_take rd fun od B l un => ?_
  obtain ⟨Pv, h0, hd, hs, hn⟩ := body d H1 B od cd e1 l
  refine ⟨d, od, rfl, .inl ⟨kvs, l.there, fun i m σ' H' => m = kvs.length - i ∧ i ≤ kvs.length ∧ Pv i σ' H', ⟨kvs.length, by simp, Nat.zero_le _, h0⟩, ?_⟩⟩
  rintro i m σ' H' ⟨rfl, hi, p⟩
  by_cases hlt : i < kvs.length
  · refine .inr ⟨⟨hd _ _ _ p, hlt⟩, Pv (i + 1), fun σ2 H2 p' => ⟨kvs.length - (i + 1), by omega, rfl, hlt, p'⟩, fun x H2 y => ?_⟩
    obtain ⟨rfl, k, v, e, rfl⟩ := y
    exact hs i k v σ' _ e p
  · have e : i = kvs.length := by omega
    subst e
    exact .inl ⟨⟨hd _ _ _ p, Nat.le_refl _⟩, un _ _ (hd _ _ _ p) (hn _ _ p)⟩
/-- for v in d.values() -/
theorem s_forV (h : ∀ Q : VK, (∀ d H1, C d → Ex H H1 → Rd H1 d (.dK kvs) → Q (.ref d) H1) → te σ H Q)
    (body : ∀ (d : Addr) (H1 B : Hp) (od : Obj), C d → Ex H H1 → LkB H1 B d od kvs → ∃ Pv : Nat → L2.St → Hp → Prop, Pv 0 σ B ∧ (∀ i σ' H', Pv i σ' H' → H' d = some (.frz od (.dK kvs))) ∧
      (∀ i k v σ' H', kvs[i]? = some (k, v) → Pv i σ' H' → g v σ' H' fun σ2 H2 => tb { nx := Pv (i + 1), ct := Pv (i + 1), rt := (unD N D).rt, bk := (unD N D).nx } σ2 H2) ∧ (∀ σ' H', Pv kvs.length σ' H' → Away H1 H' d (D.nx σ'))) :
    tFor (iVals (lkA N te)) g tb (unD N D) σ H := by
  refine h (lkP N _) fun d H1 cd e1 rd => lk_take rd fun od B l un => ?_
  obtain ⟨Pv, h0, hd, hs, hn⟩ := body d H1 B od cd e1 l
  refine ⟨d, od, kvs, rfl, l.there, fun i m σ' H' => m = kvs.length - i ∧ i ≤ kvs.length ∧ Pv i σ' H', ⟨kvs.length, by simp, Nat.zero_le _, h0⟩, ?_⟩
  rintro i m σ' H' ⟨rfl, hi, p⟩
  by_cases hlt : i < kvs.length
  · refine .inr ⟨⟨hd _ _ _ p, hlt⟩, Pv (i + 1), fun σ2 H2 p' => ⟨kvs.length - (i + 1), by omega, rfl, hlt, p'⟩, fun x H2 y => ?_⟩
    obtain ⟨rfl, k, e⟩ := y
    exact hs i k x σ' _ e p
  · have e : i = kvs.length := by omega
    subst e
    exact .inl ⟨⟨hd _ _ _ p, Nat.le_refl _⟩, un _ _ (hd _ _ _ p) (hn _ _ p)⟩
/-- for k, v in d.items(): a new tuple a turn -/
theorem s_forI (h : ∀ Q : VK, (∀ d H1, C d → Ex H H1 → Rd H1 d (.dK kvs) → Q (.ref d) H1) → te σ H Q)
    (body : ∀ (d : Addr) (H1 B : Hp) (od : Obj), C d → Ex H H1 → LkB H1 B d od kvs → ∃ Pv : Nat → L2.St → Hp → Prop, Pv 0 σ B ∧ (∀ i σ' H', Pv i σ' H' → H' d = some (.frz od (.dK kvs))) ∧
      (∀ i k v σ' H' T, kvs[i]? = some (k, v) → Pv i σ' H' → H' T = none → g (.ref T) σ' (upd H' T (.tup [kV k, v])) fun σ2 H2 => tb { nx := Pv (i + 1), ct := Pv (i + 1), rt := (unD N D).rt, bk := (unD N D).nx } σ2 H2) ∧ (∀ σ' H', Pv kvs.length σ' H' → Away H1 H' d (D.nx σ'))) :
    tFor (iItems (lkA N te)) g tb (unD N D) σ H := by
  refine h (lkP N _) fun d H1 cd e1 rd => lk_take rd fun od B l un => ?_
  obtain ⟨Pv, h0, hd, hs, hn⟩ := body d H1 B od cd e1 l
  refine ⟨d, od, kvs, rfl, l.there, fun i m σ' H' => m = kvs.length - i ∧ i ≤ kvs.length ∧ Pv i σ' H', ⟨kvs.length, by simp, Nat.zero_le _, h0⟩, ?_⟩
  rintro i m σ' H' ⟨rfl, hi, p⟩
  by_cases hlt : i < kvs.length
  · refine .inr ⟨⟨hd _ _ _ p, hlt⟩, Pv (i + 1), fun σ2 H2 p' => ⟨kvs.length - (i + 1), by omega, rfl, hlt, p'⟩, fun x H2 y => ?_⟩
    obtain ⟨T, k, v, e, rfl, hT, rfl⟩ := y
    exact hs i k v σ' _ T e p hT
  · have e : i = kvs.length := by omega
    subst e
    exact .inl ⟨⟨hd _ _ _ p, Nat.le_refl _⟩, un _ _ (hd _ _ _ p) (hn _ _ p)⟩
/-- [te2 for k in d if tt], as a value; b: the reading behind it once unlocked -/
theorem lc_keys {tt : TT} {te2 : TE} {vs : List Nat} {Q : VK} (h : ∀ Q : VK, (∀ d H1, C d → Ex H H1 → Rd H1 d (.dK kvs) → Q (.ref d) H1) → te σ H Q)
    (body : ∀ (d : Addr) (H1 B : Hp) (od : Obj), C d → Ex H H1 → LkB H1 B d od kvs → ∀ L, B L = none → ∃ Pv : Nat → Hp → Prop, Pv 0 (upd B L (.lst [])) ∧ (∀ i H', Pv i H' → H' d = some (.frz od (.dK kvs))) ∧
      (∀ i k v H', kvs[i]? = some (k, v) → Pv i H' → g (kV k) (wipe σ vs) H' fun σ2 H2 => wipe σ2 vs = wipe σ vs ∧ tt σ2 H2 fun b H3 => if b = true then te2 σ2 H3 fun y H4 => ∃ acc, H4 L = some (.lst acc) ∧ acc.length < sizeLine ∧ Pv (i + 1) (upd H4 L (.lst (acc ++ [y]))) else Pv (i + 1) H3) ∧
      (∀ H', Pv kvs.length H' → Away H1 H' d (Q (.ref L)))) :
    tLc (iKeys (lkA N te)) g tt te2 vs σ H (fun v H' => unP N (Q v) H') := by
  refine h (lkP N _) fun d H1 cd e1 rd => lk_take rd fun od B l un => ?_
  refine ⟨d, od, rfl, .inl ⟨kvs, l.there, fun L hL => ?_⟩⟩
  obtain ⟨Pv, h0, hd, hs, hn⟩ := body d H1 B od cd e1 l L hL
  refine ⟨fun i m H' => m = kvs.length - i ∧ i ≤ kvs.length ∧ Pv i H', ⟨kvs.length, by simp, Nat.zero_le _, h0⟩, ?_⟩
  rintro i m H' ⟨rfl, hi, p⟩
  by_cases hlt : i < kvs.length
  · refine .inr ⟨⟨hd _ _ p, hlt⟩, Pv (i + 1), fun H2 p' => ⟨kvs.length - (i + 1), by omega, rfl, hlt, p'⟩, fun x H2 y => ?_⟩
    obtain ⟨rfl, k, v, e, rfl⟩ := y
    exact hs i k v _ e p
  · have e : i = kvs.length := by omega
    subst e
    exact .inl ⟨⟨hd _ _ p, Nat.le_refl _⟩, un _ _ (hd _ _ p) (hn _ p)⟩
end
end Kw


set_option Elab.async false
set_option maxRecDepth 100000
set_option maxHeartbeats 4000000
/-! Kw2: sorted of data of any length: of a list, a tuple, a dict's keys. -/
namespace Kw
open PySem PySem.Spec PyProof.Rows L2 Evl

section
variable {X : Cx} {pins : List (Addr × Obj)} {σ : L2.St} {H : Hp} {s : Shared}
/-- items as values and as data -/
abbrev VD := V × PyData
/-- what sorted makes of them -/
def srt (bs : List VD) : List VD := bs.mergeSort (PySem.W.dataLe false (·.2))
theorem srt_perm (bs : List VD) : (srt bs).Perm bs := List.mergeSort_perm ..
structure SortIn (K : PySem.W.Frag) (H : Hp) (bs : List VD) : Prop where
  dat : ∀ b ∈ bs, Dp K H b.1 b.2
  alike : PySem.W.AllAlike (bs.map (·.2))
  able : PySem.W.Sortable (bs.map (·.2))
  deep : ∀ b ∈ bs, b.2.depth ≤ 8
theorem each_vals {bs : List VD} : ∀ {us : List Value}, Vals (bs.map (·.1)) us → PySem.W.EachIs (fun u b => RelV b.1 u) us bs := by
  induction bs with
  | nil => intro us h; cases h; exact .nil
  | cons b r ih => intro us h; cases h with | cons h1 h2 => exact .cons h1 (ih h2)
theorem vals_each {bs : List VD} {us : List Value} (h : PySem.W.EachIs (fun u (b : VD) => RelV b.1 u) us bs) : Vals (bs.map (·.1)) us := by
  induction h with
  | nil => exact .nil
  | cons h1 _ ih => exact .cons h1 ih
theorem each_reads (I : Inv X pins σ H s) {bs : List VD} (hd : ∀ b ∈ bs, Dp X.K H b.1 b.2) : ∀ {us : List Value}, Vals (bs.map (·.1)) us → PySem.W.EachIs (fun u (b : VD) => ∃ as, Reads s.heap u b.2 as) us bs := by
  induction bs with
  | nil => intro us h; cases h; exact .nil
  | cons b r ih =>
    intro us h
    cases h with
    | cons h1 h2 => exact .cons (Dp.reads I b.2 b.1 _ (hd b (List.mem_cons_self ..)) h1) (ih (fun c hc => hd c (List.mem_cons_of_mem _ hc)) h2)
/-- list.sort of a list just laid -/
theorem sort_new {A : Around} {E : Value → Shared → Prop} {vs : List Value} {bs : List VD} {Q : Value → Shared → Prop} (I : Inv X pins σ H s) (r : Vals (bs.map (·.1)) vs) (d : SortIn X.K H bs) (hz : bs.length ≤ sizeLine) (hu : A.units + 16 < cLine)
    (h : ∀ s', Inv X pins σ (upd H s.heap.objs.size (.lst ((srt bs).map (·.1)))) s' → Q .none s') :
    wpAny (model X.prog X.w) A (call (.builtin "list.sort") [.ref s.heap.objs.size]) Q E { s with heap := s.heap.push (seqObj "list" vs.toArray 0) } := by
  have ho : (s.heap.push (seqObj "list" vs.toArray 0)).get? s.heap.objs.size = some (seqObj "list" vs.toArray 0) := Heap.get?_push_size _ rfl
  have e := each_vals r
  have er := each_reads I d.dat r
  have kp : ∀ b o, s.heap.get? b = some o → (PySem.W.sortingHeap (s.heap.push (seqObj "list" vs.toArray 0)) s.heap.objs.size vs).get? b = some o := fun b o q =>
    PySem.W.sortingHeap_old (Nat.ne_of_lt (Heap.lt_size q)) (Heap.get?_push_of_some _ q)
  have er' : PySem.W.EachIs (fun u (b : VD) => ∃ as, Reads (PySem.W.sortingHeap (s.heap.push (seqObj "list" vs.toArray 0)) s.heap.objs.size vs) u b.2 as) vs bs := er.mono fun _ _ ⟨as, q⟩ => ⟨as, PyProof.Rows.Reads.keeps kp q⟩
  refine wpAny_call_entry PyProof.Rows.slot_list_sort ⟨_, ho, rfl⟩ PyProof.Rows.entry_list_sort
    (PySem.W.list_sort_vals (κ := PySem.W.dataKind (PySem.W.sortingHeap (s.heap.push (seqObj "list" vs.toArray 0)) s.heap.objs.size vs) (bs.map (·.2))) ho
      (PySem.W.SortsAt.data (s := { s with heap := PySem.W.sortingHeap (s.heap.push (seqObj "list" vs.toArray 0)) s.heap.objs.size vs })
        (PySem.W.each_map (R := fun v d => ∃ as, Reads (PySem.W.sortingHeap (s.heap.push (seqObj "list" vs.toArray 0)) s.heap.objs.size vs) v d as) (fun b : VD => b.2) er') d.alike d.able
        (PySem.W.bound_map (enc := fun b : VD => b.2) fun b hb => by have := d.deep b hb; show A.units + 1 + b.2.depth < cLine; omega)) (by rw [e.length]; exact hz) ⟨.none, rfl, ?_⟩) (PyProof.Rows.args_list_sort _)
  have eo := PySem.W.sortVals_data (R := fun u (b : VD) => RelV b.1 u) (enc := fun b : VD => b.2) false e er' d.alike
  obtain ⟨c, hc⟩ := PyProof.Rows.sortedHeap_at (vs := vs) (out := (PySem.W.sortVals (PySem.W.dataKind (PySem.W.sortingHeap (s.heap.push (seqObj "list" vs.toArray 0)) s.heap.objs.size vs) (bs.map (·.2))) false vs vs).toArray) ho
  have rv := vals_each eo
  refine h _ (I.laid (t' := s.toks) (o := .lst ((srt bs).map (·.1))) (fun b u q => ?_) (Nat.le_refl _) ⟨?_, _, c, rv, hc⟩)
  · rw [PyProof.Rows.sortedHeap_old (Nat.ne_of_lt (Heap.lt_size q)) (by rw [size_push']; exact Nat.lt_succ_of_lt (Heap.lt_size q))]
    exact Heap.get?_push_of_some _ q
  · rw [List.length_map, (srt_perm bs).length_eq]; exact hz
/-- sorted(x): x's items are taken, then sorted -/
theorem sorted_of {v : Value} {Q : Value → Shared → Prop} (hu : X.A.units + 64 < cLine) (h : wpAny (model X.prog X.w) X.A.in1 (collect v) (fun vs s1 => ∃ H1 bs, Inv X pins σ H1 s1 ∧ Vals (bs.map (·.1)) vs ∧ SortIn X.K H1 bs ∧ bs.length ≤ sizeLine ∧
      ∀ p s', H1 p = none → Inv X pins σ (upd H1 p (.lst ((srt bs).map (·.1)))) s' → Q (.ref p) s') (fun e s' => X.xe e s') s) :
    wpAny (model X.prog X.w) X.A (call (.builtin "sorted") [v]) Q X.xe s := by
  refine Calls.call_function_entry PyProof.Rows.kind_sorted PyProof.Rows.plain_sorted PyProof.Rows.entry_sorted (PyProof.Rows.args_sorted1 _) ?_
  unfold Builtin.«sorted»
  refine wpAny_bind (m := checkCount "sorted" 1 1 _) (wpAny_pure ?_)
  refine wpAny_bind (wpAny_mono h (fun vs s1 ⟨H1, bs, I1, r, d, hz, q⟩ => ?_) fun _ _ z => z)
  have hl : vs.length ≤ sizeLine := by
    have e := r.length
    rw [List.length_map] at e
    omega
  refine wpAny_bind (wpAny_newList ?_ hl)
  show wpAny _ _ _ _ _ { s1 with heap := s1.heap.push (seqObj "list" vs.toArray 0) }
  refine wpAny_bind (wpAny_holding (sort_new I1 r d hz (by show X.A.units + 1 + 16 < cLine; omega) fun s' I' => ?_))
  exact wpAny_pure ⟨_, rfl, q _ _ (I1.hok.fresh (Nat.le_refl _)) I'⟩
end

section
variable {X : Cx}
/-- sorted of a list or a tuple -/
def rSrt (K : PySem.W.Frag) : List V → Hp → VK → Prop := fun xs H Q => ∃ a bs, xs = [.ref a] ∧ (SqL K H a (bs.map (·.1)) ∨ SqT K H a (bs.map (·.1))) ∧ SortIn K H bs ∧ ∀ p, H p = none → Q (.ref p) (upd H p (.lst ((srt bs).map (·.1))))
theorem call_srt (hu : X.A.units + 64 < cLine) : CallR X (.builtin "sorted") (rSrt X.K) := by
  intro pins s σ H xs us Q I r h
  obtain ⟨a, bs, rfl, hs, d, q⟩ := h
  obtain ⟨u, rfl, ru⟩ := vals1 r
  cases ru
  have fin : ∀ (T : String) (o : Obj) (its : List Value) (n : Nat), (T = "list" ∨ T = "tuple") → s.heap.get? a = some o → o.cls = .type T → o.data = .seq its.toArray n → Vals (bs.map (·.1)) its → (bs.map (·.1)).length ≤ sizeLine →
      wpAny (model X.prog X.w) X.A (call (.builtin "sorted") [.ref a]) (EP X pins σ Q) X.xe s := fun T o its n hT ho hc hd rv hz => by
    have hl := rv.length
    rw [List.length_map] at hz hl
    refine sorted_of hu (wpAny_collect_seq a hT ho hc hd (fun h' kp => ⟨H, bs, I.kept (t' := s.toks) kp, by simpa using rv, d, hz, fun p s' hp I' => ⟨.ref p, _, I', rfl, q p hp⟩⟩) (by rw [List.size_toArray, ← hl]; exact hz))
  rcases hs with hs | hs
  · obtain ⟨its, rv, ⟨o, n, ho, hc, _, hd⟩, hz⟩ := I.list hs
    exact fin "list" o its n (.inl rfl) ho hc hd rv hz
  · obtain ⟨its, rv, ⟨o, ho, hc, n, hd⟩, hz⟩ := I.tuple hs
    exact fin "tuple" o its n (.inr rfl) ho hc hd rv hz
theorem vals_of_get : ∀ {xs : List V} {us : List Value}, us.length = xs.length → (∀ (j : Nat) (x : V) (u : Value), xs[j]? = some x → us[j]? = some u → RelV x u) → Vals xs us
  | [], [], _, _ => .nil
  | [], _ :: _, h, _ => by simp at h
  | _ :: _, [], h, _ => by simp at h
  | x :: xs, u :: us, h, k => .cons (k 0 x u rfl rfl) (vals_of_get (by simpa using h) fun j y v h1 h2 => k (j + 1) y v (by simpa using h1) (by simpa using h2))
/-- sorted of a dict: its keys -/
def rSrtD (K : PySem.W.Frag) : List V → Hp → VK → Prop := fun xs H Q => ∃ a kvs bs, xs = [.ref a] ∧ Rd H a (.dK kvs) ∧ kvs.map (fun p => kV p.1) = bs.map Prod.fst ∧ SortIn K H bs ∧ ∀ p, H p = none → Q (.ref p) (upd H p (.lst ((srt bs).map (·.1))))
theorem call_srtD (hu : X.A.units + 64 < cLine) (hc : X.calm = true) : CallR X (.builtin "sorted") (rSrtD X.K) := by
  intro pins s σ H xs us Q I r h
  obtain ⟨a, kvs, bs, rfl, hd, hk, d, q⟩ := h
  obtain ⟨u, rfl, ru⟩ := vals1 r
  cases ru
  obtain ⟨z, lo, vs, rel, dd⟩ := dk_rd I.hok hd
  obtain ⟨ep, hat⟩ := dd.dictAt
  have hl1 : kvs.length = vs.length := rel.length
  have hl2 : kvs.length = bs.length := by have e := congrArg List.length hk; simpa using e
  refine sorted_of (pins := pins) (σ := σ) hu (PySem.W.kdu_collect (A := X.A.in1) (PySem.W.kdl_dict (knd := mixKind X.prog X.w) (kvs := vs) (ep := ep) lo) (I.ok.hd hc) hat (by omega) fun h' tk acc kp hacc => ?_)
  refine ⟨H, bs, I.kept kp, vals_of_get (by rw [Array.length_toList, hacc.1, List.length_map]; omega) fun j x u hx hv => ?_, d, by omega, fun p s' hp I' => ⟨.ref p, _, I', rfl, q p hp⟩⟩
  obtain ⟨k, y, e1, e2⟩ := hacc.2 j u (by rw [← Array.getElem?_toList]; exact hv)
  have e3 : (kvs.map (·.1))[j]? = some k := by
    have e4 : (vs.map (·.1))[j]? = some k := by rw [List.getElem?_map, e1]; rfl
    rw [rel.keys]; exact e4
  rw [← hk, List.getElem?_map] at hx
  rw [List.getElem?_map] at e3
  cases ek : kvs[j]? with
  | none => rw [ek] at e3; cases e3
  | some p =>
    rw [ek] at e3 hx
    cases e3
    cases hx
    exact relV_key e2
variable {e : Expr} {es : List Expr} {t : TA} {p pos : Pos}
theorem b_sortedL (B : Blt X.mg) (hu : X.A.units + 64 < cLine) (ha : PA X (e :: es) t) (hg : Gl X "sorted" := by rfl) (he : SE X e es := by rfl) (hp : SP0 X pos es := by rfl) : PE X (.Call (.Name "sorted" p) (e :: es) [] pos) (tCB (rSrt X.K) t) :=
  pe_callB (call_srt hu) hg B.sorted (by decide +kernel) ha (by decide) (by decide) he hp
theorem b_sortedT (B : Blt X.mg) (hu : X.A.units + 64 < cLine) (ha : PA X (e :: es) t) (hg : Gl X "sorted" := by rfl) (he : SE X e es := by rfl) (hp : SP0 X pos es := by rfl) : PE X (.Call (.Name "sorted" p) (e :: es) [] pos) (tCB (rSrt X.K) t) := b_sortedL B hu ha hg he hp
theorem b_sortedD (B : Blt X.mg) (hu : X.A.units + 64 < cLine) (ha : PA X (e :: es) t) (hc : X.calm = true := by rfl) (hg : Gl X "sorted" := by rfl) (he : SE X e es := by rfl) (hp : SP0 X pos es := by rfl) : PE X (.Call (.Name "sorted" p) (e :: es) [] pos) (tCB (rSrtD X.K) t) :=
  pe_callB (call_srtD hu hc) hg B.sorted (by decide +kernel) ha (by decide) (by decide) he hp
end

/-! ### texts, ints -/
def sVD (x : Str) : VD := (.str x, .str x)
def iVD (i : Int) : VD := (.int i, .int i)
def leS (x y : Str) : Bool := decide (x.cps.toList ≤ y.cps.toList)
def sortS (ks : List Str) : List Str := ks.mergeSort leS
def sortI (ns : List Int) : List Int := ns.mergeSort fun a b => decide (a ≤ b)
theorem sortIn_strs {K : PySem.W.Frag} {H : Hp} (ks : List Str) : SortIn K H (ks.map sVD) where
  dat := fun b hb => by obtain ⟨x, _, rfl⟩ := List.mem_map.mp hb; exact .str x
  alike := by
    rw [List.map_map]
    exact PySem.W.AllAlike.of (enc := fun x : Str => .str x) fun _ _ => by simp [PySem.W.alike]
  able := by
    rw [List.map_map]
    exact PySem.W.Sortable.others (enc := fun x : Str => .str x) fun _ => ⟨(fun z => nomatch z), (fun _ z => nomatch z)⟩
  deep := fun b hb => by obtain ⟨x, _, rfl⟩ := List.mem_map.mp hb; show PyData.depth (.str x) ≤ 8; simp [PyData.depth]
theorem sortIn_ints {K : PySem.W.Frag} {H : Hp} (ns : List Int) : SortIn K H (ns.map iVD) where
  dat := fun b hb => by obtain ⟨x, _, rfl⟩ := List.mem_map.mp hb; exact .int x
  alike := by
    rw [List.map_map]
    exact PySem.W.AllAlike.of (enc := fun x : Int => .int x) fun _ _ => by simp [PySem.W.alike]
  able := by
    rw [List.map_map]
    exact PySem.W.Sortable.others (enc := fun x : Int => .int x) fun _ => ⟨(fun z => nomatch z), (fun _ z => nomatch z)⟩
  deep := fun b hb => by obtain ⟨x, _, rfl⟩ := List.mem_map.mp hb; show PyData.depth (.int x) ≤ 8; simp [PyData.depth]
/-- sorting goes through a map that keeps the order -/
theorem map_mergeSort {α β : Type} (f : α → β) (r : α → α → Bool) (s : β → β → Bool) (h : ∀ a b, r a b = s (f a) (f b)) (l : List α) : (l.mergeSort r).map f = (l.map f).mergeSort s :=
  List.map_mergeSort (fun a _ b _ => h a b)
theorem srt_strs (ks : List Str) : (srt (ks.map sVD)).map (·.1) = (sortS ks).map V.str := by
  unfold srt sortS
  rw [← map_mergeSort sVD leS _ fun a b => ?_, List.map_map]
  · rfl
  · rw [PySem.W.dataLe_eq]
    show leS a b = !PySem.W.dataLt (.str b) (.str a)
    rw [PySem.W.dataLt_str]
    unfold leS
    by_cases h : a.cps.toList ≤ b.cps.toList
    · rw [decide_eq_true h, decide_eq_false (fun z => absurd z (List.not_lt.mpr h))]; rfl
    · rw [decide_eq_false h, decide_eq_true (List.not_le.mp h)]; rfl
theorem srt_ints (ns : List Int) : (srt (ns.map iVD)).map (·.1) = (sortI ns).map V.int := by
  unfold srt sortI
  rw [← map_mergeSort iVD (fun a b => decide (a ≤ b)) _ fun a b => ?_, List.map_map]
  · rfl
  · rw [PySem.W.dataLe_eq]
    show decide (a ≤ b) = !PySem.W.dataLt (.int b) (.int a)
    rw [PySem.W.dataLt_int]
    by_cases h : a ≤ b
    · rw [decide_eq_true h, decide_eq_false (by omega)]; rfl
    · rw [decide_eq_false h, decide_eq_true (by omega)]; rfl
end Kw


set_option Elab.async false
set_option maxRecDepth 100000
set_option maxHeartbeats 4000000
/-! Kw3: where defs stand, their promises by their bodies; constants; more operators. -/
namespace Kw
open PySem PySem.Spec PyProof.Rows L2 Evl

section
variable (K : PySem.W.Frag) (mg : Str → Option Value)
/-- the def x of the top stands as it is written -/
def DefAt (x : Str) (st : Stmt) (ps : List Str) : Prop := ∃ (f : Addr) (fd : FuncData), Fun K x x st f fd ∧ mg x = some (.ref f) ∧ Binds K fd ps []
/-- .. whose code object stands at c -/
def DefAtC (x : Str) (st : Stmt) (ps : List Str) (c : Addr) : Prop := ∃ (f : Addr) (oc : Value) (od an : Option Addr) (osl : Array (Option Value)) (kV doc pm ct : Value), K.lookup f = some ⟨oc, od, .func (PySem.W.fnOf x x (defArgs st) (defBody st) (defScope st) .none kV doc pm an (.ref c) ct), osl⟩ ∧
  PySem.W.codeIn K (.ref c) x = true ∧ PySem.W.keepIn K (.ref f) = true ∧ mg x = some (.ref f) ∧ Binds K (PySem.W.fnOf x x (defArgs st) (defBody st) (defScope st) .none kV doc pm an (.ref c) ct) ps []
/-- so does the method m of the class at C -/
def MethAt (C : Addr) (m qual : Str) (st : Stmt) (ps : List Str) : Prop := ∃ (f : Addr) (fd : FuncData), Fun K m qual st f fd ∧ Meth K C m f ∧ Binds K fd ps []
/-- the class x at C with its __init__ -/
def ClassAt (C : Addr) (x qual : Str) (st : Stmt) (ps : List Str) (dvs : List V) : Prop := ∃ (f : Addr) (fd : FuncData) (ds : List Value), FunD K "__init__" qual (defArgs st) (defBody st) (defScope st) dvs [] f fd ∧ Mk K C f ∧ mg x = some (.ref C) ∧ Binds K fd ps ds ∧ Vals dvs ds
end
section
variable {P : Program} {w : World} {K : PySem.W.Frag} {mg : Str → Option Value} {base : Heap} {x m qual : Str} {st : Stmt} {N ps : List Str} {k : Nat} {sp : Sp} {C : Addr} {dvs : List V}
/-- a body that lets nothing out -/
abbrev Body (P : Program) (w : World) (K : PySem.W.Frag) (mg : Str → Option Value) (base : Heap) (qual : Str) (st : Stmt) (N : List Str) (k : Nat) (sp : Sp) : Prop :=
  ∀ (f : Addr) (cdv : Value) (A : Around) (outer : List Env) (s : Shared) (H : Hp) (vs : List V) (Q : VK) (E : XK), Room k (A.deeper (envOfC qual (defScope st) s.heap.objs.size f cdv)) → sp vs H Q E →
    ∃ t, PSs (cxOf (L2.CX P w) P w K mg base N qual (defScope st) f cdv A outer s H E).nox (defBody st) t ∧ t { nx := fun _ H' => Q .non H', rt := Q } (start N vs) H
/-- a body that may raise -/
abbrev BodyX (P : Program) (w : World) (K : PySem.W.Frag) (mg : Str → Option Value) (base : Heap) (qual : Str) (st : Stmt) (N : List Str) (k : Nat) (sp : Sp) : Prop :=
  ∀ (f : Addr) (cdv : Value) (A : Around) (outer : List Env) (s : Shared) (H : Hp) (vs : List V) (Q : VK) (E : XK), Room k (A.deeper (envOfC qual (defScope st) s.heap.objs.size f cdv)) → sp vs H Q E →
    ∃ t, PSs (cxOf (L2.CX P w) P w K mg base N qual (defScope st) f cdv A outer s H E) (defBody st) t ∧ t { nx := fun _ H' => Q .non H', rt := Q } (start N vs) H
theorem body_x (h : Body P w K mg base qual st N k sp) : BodyX P w K mg base qual st N k sp := fun f cdv A outer s H vs Q E hr q =>
  let ⟨t, a, b⟩ := h f cdv A outer s H vs Q E hr q; ⟨t, a.nox, b⟩
theorem DefAt.okX (D : DefAt K mg x st ps) (S : FnScope N ps (defScope st)) (len : ∀ vs H Q E, sp vs H Q E → vs.length = ps.length) (b : BodyX P w K mg base x st N k sp) : CallOk P w K mg base (k + 1) x ps sp := by
  obtain ⟨f, fd, F, hm, hb⟩ := D
  exact ⟨f, fd, F.okX S len fun cdv A outer s H vs Q E hr h => b f cdv A outer s H vs Q E hr h, hm, F.kp, hb⟩
theorem DefAt.ok (D : DefAt K mg x st ps) (S : FnScope N ps (defScope st)) (len : ∀ vs H Q E, sp vs H Q E → vs.length = ps.length) (b : Body P w K mg base x st N k sp) : CallOk P w K mg base (k + 1) x ps sp := D.okX S len (body_x b)
theorem DefAtC.okX {c : Addr} (D : DefAtC K mg x st ps c) (S : FnScope N ps (defScope st)) (len : ∀ vs H Q E, sp vs H Q E → vs.length = ps.length)
    (b : ∀ (f : Addr) (A : Around) (outer : List Env) (s : Shared) (H : Hp) (vs : List V) (Q : VK) (E : XK), Room k (A.deeper (envOfC x (defScope st) s.heap.objs.size f (.ref c))) → sp vs H Q E →
      ∃ t, PSs (cxOf (L2.CX P w) P w K mg base N x (defScope st) f (.ref c) A outer s H E) (defBody st) t ∧ t { nx := fun _ H' => Q .non H', rt := Q } (start N vs) H) : CallOk P w K mg base (k + 1) x ps sp := by
  obtain ⟨f, oc, od, an, osl, kV, doc, pm, ct, hl, hc, hk, hm, hb⟩ := D
  exact ⟨f, _, fn_of hl hc S len fun A outer s H vs Q E hr h => b f A outer s H vs Q E hr h, hm, hk, hb⟩
theorem DefAtC.ok {c : Addr} (D : DefAtC K mg x st ps c) (S : FnScope N ps (defScope st)) (len : ∀ vs H Q E, sp vs H Q E → vs.length = ps.length)
    (b : ∀ (f : Addr) (A : Around) (outer : List Env) (s : Shared) (H : Hp) (vs : List V) (Q : VK) (E : XK), Room k (A.deeper (envOfC x (defScope st) s.heap.objs.size f (.ref c))) → sp vs H Q E →
      ∃ t, PSs (cxOf (L2.CX P w) P w K mg base N x (defScope st) f (.ref c) A outer s H E).nox (defBody st) t ∧ t { nx := fun _ H' => Q .non H', rt := Q } (start N vs) H) : CallOk P w K mg base (k + 1) x ps sp :=
  D.okX S len fun f A outer s H vs Q E hr h => let ⟨t, p, q⟩ := b f A outer s H vs Q E hr h; ⟨t, p.nox, q⟩
theorem MethAt.okX (D : MethAt K C m qual st ps) (S : FnScope N ps (defScope st)) (len : ∀ vs H Q E, sp vs H Q E → vs.length = ps.length) (b : BodyX P w K mg base qual st N k sp) : MethOk P w K mg base C (k + 1) m ps sp := by
  obtain ⟨f, fd, F, hm, hb⟩ := D
  exact ⟨f, fd, F.okX S len fun cdv A outer s H vs Q E hr h => b f cdv A outer s H vs Q E hr h, hm, hb⟩
theorem MethAt.ok (D : MethAt K C m qual st ps) (S : FnScope N ps (defScope st)) (len : ∀ vs H Q E, sp vs H Q E → vs.length = ps.length) (b : Body P w K mg base qual st N k sp) : MethOk P w K mg base C (k + 1) m ps sp := D.okX S len (body_x b)
theorem ClassAt.ok (D : ClassAt K mg C x qual st ps dvs) (S : FnScope N ps (defScope st)) (len : ∀ vs H Q E, sp vs H Q E → vs.length = ps.length) (b : Body P w K mg base qual st N k sp) : MakeOk P w K mg base C (k + 1) x ps dvs sp := by
  obtain ⟨f, fd, ds, F, hM, hm, hb, hd⟩ := D
  exact ⟨f, fd, ds, F.ok S len fun cdv A outer s H vs Q E hr h => (body_x b) f cdv A outer s H vs Q E hr h, hM, hm, hb, hd⟩
end
section
variable {X : Cx} {x : Str} {v : V} {p pos : Pos}
/-- a constant of the module -/
theorem pe_gv (h : ∃ u, X.mg x = some u ∧ RelV v u) (hg : Gl X x := by rfl) (hdb : (x == ("__debug__" : Str)) = false := by decide) : PE X (.Name x p) (tC v) := by
  obtain ⟨u, hm, r⟩ := h
  exact pe_glob hg hm r hdb
end
end Kw


set_option Elab.async false
set_option maxRecDepth 100000
set_option maxHeartbeats 4000000
/-! Top63: where the defs stand in the text, their names by slots. -/
namespace Kw
open PySem PySem.Spec PyProof.Rows L2 Evl
def top (i : Nat) : Stmt := PySem.Challenge.pw_keepwright_k63_whole_days_at_any_size.main.body.getD i (.Pass ⟨0, 0, 0, 0⟩)
abbrev st_check_path : Stmt := top 11
theorem sc_check_path : FnScope ["path", "name"] ["path"] (defScope st_check_path) := ⟨rfl, rfl, rfl, by decide +kernel, rfl, by decide +kernel, by decide +kernel⟩
abbrev st_check_folder : Stmt := top 12
theorem sc_check_folder : FnScope ["table", "found", "path"] ["table"] (defScope st_check_folder) := ⟨rfl, rfl, rfl, by decide +kernel, rfl, by decide +kernel, by decide +kernel⟩
abbrev st_overs_of : Stmt := top 13
theorem sc_overs_of : FnScope ["path", "names", "count"] ["path"] (defScope st_overs_of) := ⟨rfl, rfl, rfl, by decide +kernel, rfl, by decide +kernel, by decide +kernel⟩
abbrev st_names_in : Stmt := top 14
theorem sc_names_in : FnScope ["table", "over", "found", "path", "rest", "name", "stroke", "more"] ["table", "over"] (defScope st_names_in) := ⟨rfl, rfl, rfl, by decide +kernel, rfl, by decide +kernel, by decide +kernel⟩
abbrev st_part_of : Stmt := top 15
theorem sc_part_of : FnScope ["table", "over", "folder", "path"] ["table", "over"] (defScope st_part_of) := ⟨rfl, rfl, rfl, by decide +kernel, rfl, by decide +kernel, by decide +kernel⟩
abbrev st_figure : Stmt := top 19
theorem sc_figure : FnScope ["text", "found", "sign"] ["text"] (defScope st_figure) := ⟨rfl, rfl, rfl, by decide +kernel, rfl, by decide +kernel, by decide +kernel⟩
abbrev st_Store___init__ : Stmt := inClass (top 20) 0
theorem sc_Store___init__ : FnScope ["self", "rows", "name", "piece"] ["self", "rows"] (defScope st_Store___init__) := ⟨rfl, rfl, rfl, by decide +kernel, rfl, by decide +kernel, by decide +kernel⟩
abbrev st_Store_put : Stmt := inClass (top 20) 1
theorem sc_Store_put : FnScope ["self", "piece", "there", "head", "number"] ["self", "piece"] (defScope st_Store_put) := ⟨rfl, rfl, rfl, by decide +kernel, rfl, by decide +kernel, by decide +kernel⟩
abbrev st_Store_get : Stmt := inClass (top 20) 2
theorem sc_Store_get : FnScope ["self", "name", "piece"] ["self", "name"] (defScope st_Store_get) := ⟨rfl, rfl, rfl, by decide +kernel, rfl, by decide +kernel, by decide +kernel⟩
abbrev st_Store_find : Stmt := inClass (top 20) 3
theorem sc_Store_find : FnScope ["self", "piece", "head", "name"] ["self", "piece"] (defScope st_Store_find) := ⟨rfl, rfl, rfl, by decide +kernel, rfl, by decide +kernel, by decide +kernel⟩
abbrev st_Store_drop : Stmt := inClass (top 20) 4
theorem sc_Store_drop : FnScope ["self", "name"] ["self", "name"] (defScope st_Store_drop) := ⟨rfl, rfl, rfl, by decide +kernel, rfl, by decide +kernel, by decide +kernel⟩
abbrev st_Store_names : Stmt := inClass (top 20) 5
theorem sc_Store_names : FnScope ["self"] ["self"] (defScope st_Store_names) := ⟨rfl, rfl, rfl, by decide +kernel, rfl, by decide +kernel, by decide +kernel⟩
abbrev st_check_bounds : Stmt := top 22
theorem sc_check_bounds : FnScope ["least", "most", "window"] ["least", "most", "window"] (defScope st_check_bounds) := ⟨rfl, rfl, rfl, by decide +kernel, rfl, by decide +kernel, by decide +kernel⟩
abbrev st_sums : Stmt := top 23
theorem sc_sums : FnScope ["text", "window", "found", "here", "place"] ["text", "window"] (defScope st_sums) := ⟨rfl, rfl, rfl, by decide +kernel, rfl, by decide +kernel, by decide +kernel⟩
abbrev st_told : Stmt := top 24
theorem sc_told : FnScope ["text", "least", "most", "window", "by", "marks", "found", "start", "place", "size"] ["text", "least", "most", "window", "by"] (defScope st_told) := ⟨rfl, rfl, rfl, by decide +kernel, rfl, by decide +kernel, by decide +kernel⟩
abbrev st_put_text : Stmt := top 27
theorem sc_put_text : FnScope ["store", "text", "names", "piece"] ["store", "text"] (defScope st_put_text) := ⟨rfl, rfl, rfl, by decide +kernel, rfl, by decide +kernel, by decide +kernel⟩
abbrev st_get_text : Stmt := top 28
theorem sc_get_text : FnScope ["store", "name", "one"] ["store", "name"] (defScope st_get_text) := ⟨rfl, rfl, rfl, by decide +kernel, rfl, by decide +kernel, by decide +kernel⟩
abbrev st_body : Stmt := top 29
theorem sc_body : FnScope ["store", "name", "kind", "piece"] ["store", "name", "kind"] (defScope st_body) := ⟨rfl, rfl, rfl, by decide +kernel, rfl, by decide +kernel, by decide +kernel⟩
abbrev st_words_of : Stmt := top 30
theorem sc_words_of : FnScope ["text"] ["text"] (defScope st_words_of) := ⟨rfl, rfl, rfl, by decide +kernel, rfl, by decide +kernel, by decide +kernel⟩
abbrev st_put_folder : Stmt := top 31
theorem sc_put_folder : FnScope ["store", "table", "rows", "name", "is_text", "inner"] ["store", "table"] (defScope st_put_folder) := ⟨rfl, rfl, rfl, by decide +kernel, rfl, by decide +kernel, by decide +kernel⟩
abbrev st_rows_of : Stmt := top 32
theorem sc_rows_of : FnScope ["store", "name", "found", "text", "row", "word", "blank", "inner"] ["store", "name"] (defScope st_rows_of) := ⟨rfl, rfl, rfl, by decide +kernel, rfl, by decide +kernel, by decide +kernel⟩
abbrev st_get_folder : Stmt := top 33
theorem sc_get_folder : FnScope ["store", "name", "found", "word", "inner", "path", "text"] ["store", "name"] (defScope st_get_folder) := ⟨rfl, rfl, rfl, by decide +kernel, rfl, by decide +kernel, by decide +kernel⟩
abbrev st_needs : Stmt := top 34
theorem sc_needs : FnScope ["store", "name", "found", "left", "here", "piece", "word", "inner"] ["store", "name"] (defScope st_needs) := ⟨rfl, rfl, rfl, by decide +kernel, rfl, by decide +kernel, by decide +kernel⟩
abbrev st_Days___init__ : Stmt := inClass (top 36) 0
theorem sc_Days___init__ : FnScope ["self"] ["self"] (defScope st_Days___init__) := ⟨rfl, rfl, rfl, by decide +kernel, rfl, by decide +kernel, by decide +kernel⟩
abbrev st_Days_keep : Stmt := inClass (top 36) 1
theorem sc_Days_keep : FnScope ["self", "time", "table", "folder", "before"] ["self", "time", "table"] (defScope st_Days_keep) := ⟨rfl, rfl, rfl, by decide +kernel, rfl, by decide +kernel, by decide +kernel⟩
abbrev st_Days_give : Stmt := inClass (top 36) 2
theorem sc_Days_give : FnScope ["self", "time"] ["self", "time"] (defScope st_Days_give) := ⟨rfl, rfl, rfl, by decide +kernel, rfl, by decide +kernel, by decide +kernel⟩
abbrev st_Days_last_at : Stmt := inClass (top 36) 3
theorem sc_Days_last_at : FnScope ["self", "time", "good", "one"] ["self", "time"] (defScope st_Days_last_at) := ⟨rfl, rfl, rfl, by decide +kernel, rfl, by decide +kernel, by decide +kernel⟩
abbrev st_Days_forget : Stmt := inClass (top 36) 5
theorem sc_Days_forget : FnScope ["self", "times", "time"] ["self", "times"] (defScope st_Days_forget) := ⟨rfl, rfl, rfl, by decide +kernel, rfl, by decide +kernel, by decide +kernel⟩
abbrev st_Days_needed : Stmt := inClass (top 36) 6
theorem sc_Days_needed : FnScope ["self", "found", "time", "name"] ["self"] (defScope st_Days_needed) := ⟨rfl, rfl, rfl, by decide +kernel, rfl, by decide +kernel, by decide +kernel⟩
abbrev st_Days_sweep : Stmt := inClass (top 36) 7
theorem sc_Days_sweep : FnScope ["self", "keep", "gone", "name"] ["self"] (defScope st_Days_sweep) := ⟨rfl, rfl, rfl, by decide +kernel, rfl, by decide +kernel, by decide +kernel⟩
abbrev st_Days_hurt : Stmt := inClass (top 36) 10
theorem sc_Days_hurt : FnScope ["self", "found", "time"] ["self"] (defScope st_Days_hurt) := ⟨rfl, rfl, rfl, by decide +kernel, rfl, by decide +kernel, by decide +kernel⟩
abbrev st_Rule___init__ : Stmt := inClass (top 41) 0
theorem sc_Rule___init__ : FnScope ["self", "last", "days", "weeks", "months"] ["self", "last", "days", "weeks", "months"] (defScope st_Rule___init__) := ⟨rfl, rfl, rfl, by decide +kernel, rfl, by decide +kernel, by decide +kernel⟩
abbrev st_Rule_parts : Stmt := inClass (top 41) 1
theorem sc_Rule_parts : FnScope ["self"] ["self"] (defScope st_Rule_parts) := ⟨rfl, rfl, rfl, by decide +kernel, rfl, by decide +kernel, by decide +kernel⟩
abbrev st_Rule_stays : Stmt := inClass (top 41) 2
theorem sc_Rule_stays : FnScope ["self", "times", "rows", "found", "length", "count", "lasts", "time", "span"] ["self", "times"] (defScope st_Rule_stays) := ⟨rfl, rfl, rfl, by decide +kernel, rfl, by decide +kernel, by decide +kernel⟩
abbrev st_Rule_goes : Stmt := inClass (top 41) 3
theorem sc_Rule_goes : FnScope ["self", "times", "stays", "time"] ["self", "times"] (defScope st_Rule_goes) := ⟨rfl, rfl, rfl, by decide +kernel, rfl, by decide +kernel, by decide +kernel⟩
abbrev st_law_dice : Stmt := top 43
theorem sc_law_dice : FnScope ["cell"] ["cell"] (defScope st_law_dice) := ⟨rfl, rfl, rfl, by decide +kernel, rfl, by decide +kernel, by decide +kernel⟩
abbrev st_law_roll : Stmt := top 44
theorem sc_law_roll : FnScope ["dice", "many", "found"] ["dice", "many"] (defScope st_law_roll) := ⟨rfl, rfl, rfl, by decide +kernel, rfl, by decide +kernel, by decide +kernel⟩
abbrev st_law_rounds : Stmt := top 45
theorem sc_law_rounds : FnScope ["script", "most", "cells", "cell"] ["script", "most"] (defScope st_law_rounds) := ⟨rfl, rfl, rfl, by decide +kernel, rfl, by decide +kernel, by decide +kernel⟩
abbrev st_law_told : Stmt := top 46
theorem sc_law_told : FnScope ["what"] ["what"] (defScope st_law_told) := ⟨rfl, rfl, rfl, by decide +kernel, rfl, by decide +kernel, by decide +kernel⟩
abbrev st_law_text : Stmt := top 47
theorem sc_law_text : FnScope ["dice", "signs", "found", "k"] ["dice"] (defScope st_law_text) := ⟨rfl, rfl, rfl, by decide +kernel, rfl, by decide +kernel, by decide +kernel⟩
abbrev st_law_paths : Stmt := top 48
theorem sc_law_paths : FnScope [] [] (defScope st_law_paths) := ⟨rfl, rfl, rfl, by decide +kernel, rfl, by decide +kernel, by decide +kernel⟩
abbrev st_law_next : Stmt := top 49
theorem sc_law_next : FnScope ["dice", "table", "kind", "texts", "found", "turn", "path", "one"] ["dice", "table"] (defScope st_law_next) := ⟨rfl, rfl, rfl, by decide +kernel, rfl, by decide +kernel, by decide +kernel⟩
abbrev st_law_cut : Stmt := top 50
theorem sc_law_cut : FnScope ["text", "found", "here", "sign", "one"] ["text"] (defScope st_law_cut) := ⟨rfl, rfl, rfl, by decide +kernel, rfl, by decide +kernel, by decide +kernel⟩
abbrev st_law_inner : Stmt := top 51
theorem sc_law_inner : FnScope ["table", "found", "names", "name", "inner", "path"] ["table"] (defScope st_law_inner) := ⟨rfl, rfl, rfl, by decide +kernel, rfl, by decide +kernel, by decide +kernel⟩
abbrev st_law_goes : Stmt := top 52
theorem sc_law_goes : FnScope ["counts", "times", "last", "days", "weeks", "months", "stay", "count", "size", "spans", "time", "span"] ["counts", "times"] (defScope st_law_goes) := ⟨rfl, rfl, rfl, by decide +kernel, rfl, by decide +kernel, by decide +kernel⟩
abbrev st_law_swept : Stmt := top 53
theorem sc_law_swept : FnScope ["days", "kept", "texts", "folders", "time", "text", "one", "parts", "piece", "pieces", "name"] ["days", "kept"] (defScope st_law_swept) := ⟨rfl, rfl, rfl, by decide +kernel, rfl, by decide +kernel, by decide +kernel⟩
abbrev st_law_given : Stmt := top 54
theorem sc_law_given : FnScope ["dice", "days", "kept", "high", "turn", "time", "ahead", "one"] ["dice", "days", "kept"] (defScope st_law_given) := ⟨rfl, rfl, rfl, by decide +kernel, rfl, by decide +kernel, by decide +kernel⟩
abbrev st_law_hurt : Stmt := top 55
theorem sc_law_hurt : FnScope ["dice", "days", "kept", "names", "name", "need", "piece", "told_now", "time"] ["dice", "days", "kept"] (defScope st_law_hurt) := ⟨rfl, rfl, rfl, by decide +kernel, rfl, by decide +kernel, by decide +kernel⟩
abbrev st_law : Stmt := top 56
theorem sc_law : FnScope ["script", "dice", "days", "table", "kept", "time", "turn", "there", "fresh", "same", "counts", "gone", "one", "k"] ["script"] (defScope st_law) := ⟨rfl, rfl, rfl, by decide +kernel, rfl, by decide +kernel, by decide +kernel⟩
end Kw


set_option Elab.async false
set_option linter.all false
set_option maxRecDepth 100000
set_option maxHeartbeats 4000000
/-! Kw4: what readings evaluate to: built-ins, texts, dicts, fields; loops over texts. -/
namespace Kw
open PySem PySem.Spec PyProof.Rows L2 Evl

section
variable {K : PySem.W.Frag} {σ : L2.St} {H : Hp} {ta tb te to tx td ty : TE} {t u : TT} {x y z v : V} {D : Ends} {t1 t2 tu : TS} {g : TG}
theorem sq (h : t1 { D with nx := t2 D } σ H) : tSeq t1 t2 D σ H := h
/-- a new object -/
def EvN (te : TE) (σ : L2.St) (H : Hp) (o : HO) : Prop := ∀ H1, Ex H H1 → ∀ Q : VK, (∀ p H2, H1 p = none → Ex H1 H2 → H2 p = some o → Q (.ref p) H2) → te σ H1 Q
/-- something of which R holds -/
def EvX (te : TE) (σ : L2.St) (H : Hp) (R : V → Hp → Prop) : Prop := ∀ H1, Ex H H1 → ∀ Q : VK, (∀ v H2, Ex H1 H2 → R v H2 → Q v H2) → te σ H1 Q
theorem ev_x (h : Ev te σ H v) : EvX te σ H (fun w _ => w = v) := fun H1 e Q q => h H1 e Q fun H2 e2 => q v H2 e2 rfl
theorem EvX.use {R : V → Hp → Prop} (h : EvX te σ H R) {Q : VK} (q : ∀ v H2, Ex H H2 → R v H2 → Q v H2) : te σ H Q := h H (Ex.refl H) Q q
theorem EvN.use {o : HO} (h : EvN te σ H o) {Q : VK} (q : ∀ p H2, H p = none → Ex H H2 → H2 p = some o → Q (.ref p) H2) : te σ H Q := h H (Ex.refl H) Q q
theorem ev_use (h : Ev te σ H v) {Q : VK} (q : ∀ H2, Ex H H2 → Q v H2) : te σ H Q := h H (Ex.refl H) Q q
theorem et_use {b : Bool} (h : EvT t σ H b) {Q : Bool → Hp → Prop} (q : ∀ H2, Ex H H2 → Q b H2) : t σ H Q := h H (Ex.refl H) Q q
theorem ea_use {ta : TA} {vs : List V} (h : EvA ta σ H vs) {Q : List V → Hp → Prop} (q : ∀ H2, Ex H H2 → Q vs H2) : ta σ H Q := h H (Ex.refl H) Q q
theorem EvN.mono {H' : Hp} {o : HO} (e : Ex H H') (h : EvN te σ H o) : EvN te σ H' o := fun H1 a Q q => h H1 (e.trans a) Q q
theorem ev_mono {H' : Hp} (h : Ev te σ H v) (e : Ex H H') : Ev te σ H' v := fun H1 a Q q => h H1 (e.trans a) Q q
/-! ### built-ins -/
theorem rc_val {r : List V → Hp → VK → Prop} {vs : List V} (h : ∀ H1, Ex H H1 → ∀ Q : VK, Q z H1 → r vs H1 Q) : RC r vs H z := fun H1 e Q q => h H1 e Q (q H1 (Ex.refl H1))
theorem rc_len {n : Nat} (h : LenD K H x n) : RC (rLn K) [x] H (.int (n : Int)) := rc_val fun _ e _ q => ⟨x, n, rfl, h.mono e, q⟩
theorem rc_ord {c : Nat} : RC rOrd [.str ⟨#[c]⟩] H (.int (c : Int)) := rc_val fun _ _ _ q => ⟨_, rfl, rfl, q⟩
theorem rc_str {i : Int} (h : i.natAbs.log2 < 1920) : RC rStrI [.int i] H (.str (toString i)) := rc_val fun _ _ _ q => ⟨i, rfl, h, q⟩
theorem rc_int {i : Int} : RC rInt1 [.int i] H (.int i) := rc_val fun _ _ _ q => .inl ⟨i, rfl, q⟩
theorem rc_intB {b : Bool} : RC rInt1 [.bl b] H (.int (if b then 1 else 0)) := rc_val fun _ _ _ q => .inr ⟨b, rfl, q⟩
theorem rc_abs {i : Int} : RC rAbs [.int i] H (.int (if i < 0 then -i else i)) := rc_val fun _ _ _ q => ⟨i, rfl, q⟩
theorem rc_max2 {i j : Int} : RC rMax2 [.int i, .int j] H (.int (if j > i then j else i)) := rc_val fun _ _ _ q => ⟨i, j, rfl, q⟩
theorem rc_min2 {i j : Int} : RC rMin2 [.int i, .int j] H (.int (if j < i then j else i)) := rc_val fun _ _ _ q => ⟨i, j, rfl, q⟩
/-- tuple(xs), list(xs), sorted(xs) -/
theorem en_tupL {p : Addr} {xs : List V} (h : Ev te σ H (.ref p)) (hs : SqL K H p xs) : EvN (tCB (rTup K) (tCons te tNil)) σ H (.tup xs) := fun H1 e Q q =>
  h H1 e _ fun H2 e2 => ⟨p, xs, rfl, .inl ⟨ex_l (e.trans e2) hs, fun l hl => q l _ (fresh_back e2 hl) (e2.trans (Ex.new hl)) upd_same⟩⟩
theorem en_tupN {xs : List V} (h : EvN te σ H (.lst xs)) : EvN (tCB (rTup K) (tCons te tNil)) σ H (.tup xs) := fun H1 e Q q =>
  h H1 e _ fun p H2 _ e2 hp => ⟨p, xs, rfl, .inl ⟨sq_of hp, fun l hl => q l _ (fresh_back e2 hl) (e2.trans (Ex.new hl)) upd_same⟩⟩
theorem en_lstL {p : Addr} {xs : List V} (h : Ev te σ H (.ref p)) (hs : SqL K H p xs ∨ SqT K H p xs) : EvN (tCB (rLst K) (tCons te tNil)) σ H (.lst xs) := fun H1 e Q q =>
  h H1 e _ fun H2 e2 => ⟨p, xs, rfl, hs.elim (fun h => .inl (ex_l (e.trans e2) h)) (fun h => .inr (ex_t (e.trans e2) h)), fun l hl => q l _ (fresh_back e2 hl) (e2.trans (Ex.new hl)) upd_same⟩
theorem dp_mono {H' : Hp} (e : Ex H H') : ∀ (d : PyData) (v : V), Dp K H v d → Dp K H' v d := by
  have go : ∀ {v : V} {d : PyData}, Dp K H v d → Dp K H' v d := fun {v d} h => by
    refine Dp.rec (motive_1 := fun v d _ => Dp K H' v d) (motive_2 := fun vs ds _ => DpAll K H' vs ds) .non (fun b => .bl b) (fun i => .int i) (fun x => .str x) (fun hs _ ih => .lst (ex_l e hs) ih) (fun hs _ ih => .tup (ex_t e hs) ih) .nil (fun _ _ h1 h2 => .cons h1 h2) h
  exact fun d v h => go h
theorem SortIn.mono {H' : Hp} {bs : List VD} (e : Ex H H') (h : SortIn K H bs) : SortIn K H' bs := ⟨fun b hb => dp_mono e _ _ (h.dat b hb), h.alike, h.able, h.deep⟩
theorem en_srtL {p : Addr} {bs : List VD} (h : Ev te σ H (.ref p)) (hs : SqL K H p (bs.map (·.1)) ∨ SqT K H p (bs.map (·.1))) (hi : SortIn K H bs) : EvN (tCB (rSrt K) (tCons te tNil)) σ H (.lst ((srt bs).map (·.1))) := fun H1 e Q q =>
  h H1 e _ fun H2 e2 => ⟨p, bs, rfl, hs.elim (fun h => .inl (ex_l (e.trans e2) h)) (fun h => .inr (ex_t (e.trans e2) h)), hi.mono (e.trans e2), fun l hl => q l _ (fresh_back e2 hl) (e2.trans (Ex.new hl)) upd_same⟩
theorem strs_map (ks : List Str) : (ks.map sVD).map (·.1) = ks.map V.str := by rw [List.map_map]; rfl
theorem ints_map (ns : List Int) : (ns.map iVD).map (·.1) = ns.map V.int := by rw [List.map_map]; rfl
theorem en_srtS {p : Addr} {ks : List Str} (h : Ev te σ H (.ref p)) (hs : SqL K H p (ks.map V.str) ∨ SqT K H p (ks.map V.str)) : EvN (tCB (rSrt K) (tCons te tNil)) σ H (.lst ((sortS ks).map V.str)) := by
  rw [← srt_strs]
  exact en_srtL h (by rw [strs_map]; exact hs) (sortIn_strs ks)
theorem en_srtI {p : Addr} {ns : List Int} (h : Ev te σ H (.ref p)) (hs : SqL K H p (ns.map V.int) ∨ SqT K H p (ns.map V.int)) : EvN (tCB (rSrt K) (tCons te tNil)) σ H (.lst ((sortI ns).map V.int)) := by
  rw [← srt_ints]
  exact en_srtL h (by rw [ints_map]; exact hs) (sortIn_ints ns)
theorem en_srtD {p : Addr} {kvs : List (Key × V)} {bs : List VD} (h : Ev te σ H (.ref p)) (hd : Rd H p (.dK kvs)) (hk : kvs.map (fun p => kV p.1) = bs.map Prod.fst) (hi : SortIn K H bs) : EvN (tCB (rSrtD K) (tCons te tNil)) σ H (.lst ((srt bs).map (·.1))) := fun H1 e Q q =>
  h H1 e _ fun H2 e2 => ⟨p, kvs, bs, rfl, ex_rd (e.trans e2) hd, hk, hi.mono (e.trans e2), fun l hl => q l _ (fresh_back e2 hl) (e2.trans (Ex.new hl)) upd_same⟩
/-- sorted of a dict whose keys are texts -/
theorem en_srtDS {p : Addr} {kvs : List (Key × V)} {ks : List Str} (h : Ev te σ H (.ref p)) (hd : Rd H p (.dK kvs)) (hk : kvs.map (·.1) = ks.map Sum.inr) : EvN (tCB (rSrtD K) (tCons te tNil)) σ H (.lst ((sortS ks).map V.str)) := by
  rw [← srt_strs]
  refine en_srtD h hd ?_ (sortIn_strs ks)
  have e := congrArg (List.map kV) hk
  rw [List.map_map, List.map_map] at e
  rw [strs_map]; exact e
theorem en_srtDI {p : Addr} {kvs : List (Key × V)} {ns : List Int} (h : Ev te σ H (.ref p)) (hd : Rd H p (.dK kvs)) (hk : kvs.map (·.1) = ns.map Sum.inl) : EvN (tCB (rSrtD K) (tCons te tNil)) σ H (.lst ((sortI ns).map V.int)) := by
  rw [← srt_ints]
  refine en_srtD h hd ?_ (sortIn_ints ns)
  have e := congrArg (List.map kV) hk
  rw [List.map_map, List.map_map] at e
  rw [ints_map]; exact e
/-! ### methods of texts -/
def RM (r : V → List V → Hp → VK → Prop) (x : V) (ys : List V) (H : Hp) (z : V) : Prop := ∀ H1, Ex H H1 → ∀ Q : VK, (∀ H2, Ex H1 H2 → Q z H2) → r x ys H1 Q
theorem ev_m1 {r : V → List V → Hp → VK → Prop} {a : Str} (ho : Ev to σ H (.str a)) (h : Ev te σ H y) (hr : RM r (.str a) [y] H z) : Ev (tM1 r to te) σ H z := fun H1 e Q q =>
  ho H1 e _ fun H2 e2 => ⟨⟨a, rfl⟩, h H2 (e.trans e2) _ fun H3 e3 => hr H3 ((e.trans e2).trans e3) _ fun H4 e4 => q H4 ((e2.trans e3).trans e4)⟩
theorem rm_val {r : V → List V → Hp → VK → Prop} {ys : List V} (h : ∀ H1, Ex H H1 → ∀ Q : VK, Q z H1 → r x ys H1 Q) : RM r x ys H z := fun H1 e Q q => h H1 e Q (q H1 (Ex.refl H1))
theorem rm_strip {a b : Str} (h : a.length ≤ sizeLine) : RM rStrip (.str a) [.str b] H (.str (Txt.stripChars a b)) := rm_val fun _ _ _ q => ⟨a, b, rfl, rfl, h, q⟩
theorem rm_starts {a b : Str} : RM rStarts (.str a) [.str b] H (.bl (Txt.startswith a b)) := rm_val fun _ _ _ q => ⟨a, b, rfl, rfl, q⟩
theorem rm_join {a : Str} {p : Addr} {ys : List Str} (h : SqL K H p (ys.map V.str) ∨ SqT K H p (ys.map V.str)) (hz : (ys.map (·.length)).sum + ys.length * a.length ≤ 16777216) : RM (rJoin K) (.str a) [.ref p] H (.str (Txt.join a ys)) :=
  rm_val fun _ e _ q => ⟨a, p, ys, rfl, rfl, h.elim (fun h => .inl (ex_l e h)) (fun h => .inr (ex_t e h)), hz, q⟩
theorem ev_joinN {a : Str} {ys : List Str} (ho : Ev to σ H (.str a)) (h : EvN te σ H (.lst (ys.map V.str))) (hz : (ys.map (·.length)).sum + ys.length * a.length ≤ 16777216) : Ev (tM1 (rJoin K) to te) σ H (.str (Txt.join a ys)) := fun H1 e Q q =>
  ho H1 e _ fun H2 e2 => ⟨⟨a, rfl⟩, h H2 (e.trans e2) _ fun p H3 _ e3 hp => ⟨a, p, ys, rfl, rfl, .inl (sq_of hp), hz, q H3 (e2.trans e3)⟩⟩
theorem en_split {a b : Str} (ho : Ev to σ H (.str a)) (h : Ev te σ H (.str b)) (hb : (b.length == 0) = false) (hz : a.length + 2 ≤ sizeLine) : EvN (tM1 rSplit to te) σ H (.lst ((Txt.split a b).map V.str)) := fun H1 e Q q =>
  ho H1 e _ fun H2 e2 => ⟨⟨a, rfl⟩, h H2 (e.trans e2) _ fun H3 e3 => ⟨a, b, rfl, rfl, hb, hz, fun p hp => q p _ (fresh_back (e2.trans e3) hp) ((e2.trans e3).trans (Ex.new hp)) upd_same⟩⟩
theorem en_part {a b : Str} (ho : Ev to σ H (.str a)) (h : Ev te σ H (.str b)) (hb : (b.length == 0) = false) (hz : a.length ≤ sizeLine) : EvN (tM1 rPart to te) σ H (.tup [.str (Txt.partition a b).1, .str (Txt.partition a b).2.1, .str (Txt.partition a b).2.2]) := fun H1 e Q q =>
  ho H1 e _ fun H2 e2 => ⟨⟨a, rfl⟩, h H2 (e.trans e2) _ fun H3 e3 => ⟨a, b, rfl, rfl, hb, hz, fun p hp => q p _ (fresh_back (e2.trans e3) hp) ((e2.trans e3).trans (Ex.new hp)) upd_same⟩⟩
theorem rv_addS {i j : Str} (h : i.length + j.length ≤ sizeLine) : RV (fun x y H Q => ∃ i j, x = .str i ∧ y = .str j ∧ i.length + j.length ≤ sizeLine ∧ Q (.str (i ++ j)) H) (.str i) (.str j) H (.str (i ++ j)) :=
  rv_val fun _ _ _ q => ⟨i, j, rfl, rfl, h, q⟩
theorem ev_slS {tl th : TO} {a : Str} {lo hi : Option Int} (h : Ev te σ H (.str a)) (h1 : EvO tl σ H lo) (h2 : EvO th σ H hi) (hz : a.length ≤ sizeLine) : Ev (tSl rSlS te tl th) σ H (.str (cutS a lo hi)) := fun H1 e Q q =>
  h H1 e _ fun H2 e2 => h1 H2 (e.trans e2) _ fun H3 e3 => h2 H3 ((e.trans e2).trans e3) _ fun H4 e4 => ⟨a, rfl, hz, q H4 ((e2.trans e3).trans e4)⟩
/-! ### dicts, fields -/
theorem dget_of {d : Addr} {kvs : List (Key × V)} {k : Key} (h : Rd H d (.dK kvs)) : DGet H d (kV k) (valV kvs k) := .inl ⟨kvs, k, h, rfl, rfl⟩
theorem ev_dget {d : Addr} {kvs : List (Key × V)} {k : Key} (hd : Ev td σ H (.ref d)) (hk : Ev ty σ H (kV k)) (hr : Rd H d (.dK kvs)) (hv : valV kvs k = some v) : Ev (tDGet td ty) σ H v := fun H1 e Q q =>
  hd H1 e _ fun H2 e2 => hk H2 (e.trans e2) _ fun H3 e3 => ⟨d, v, rfl, by rw [← hv]; exact dget_of (ex_rd ((e.trans e2).trans e3) hr), q H3 (e2.trans e3)⟩
theorem ev_din {d : Addr} {kvs : List (Key × V)} {k : Key} (hk : Ev ty σ H (kV k)) (hd : Ev td σ H (.ref d)) (hr : Rd H d (.dK kvs)) : Ev (tDIn ty td) σ H (.bl (valV kvs k).isSome) := fun H1 e Q q =>
  hk H1 e _ fun H2 e2 => hd H2 (e.trans e2) _ fun H3 e3 => ⟨d, _, rfl, dget_of (ex_rd ((e.trans e2).trans e3) hr), q H3 (e2.trans e3)⟩
theorem ev_dnotin {d : Addr} {kvs : List (Key × V)} {k : Key} (hk : Ev ty σ H (kV k)) (hd : Ev td σ H (.ref d)) (hr : Rd H d (.dK kvs)) : Ev (tDNotIn ty td) σ H (.bl (!(valV kvs k).isSome)) := fun H1 e Q q =>
  hk H1 e _ fun H2 e2 => hd H2 (e.trans e2) _ fun H3 e3 => ⟨d, _, rfl, dget_of (ex_rd ((e.trans e2).trans e3) hr), q H3 (e2.trans e3)⟩
theorem en_dnew : EvN tDNewK σ H (.dK []) := fun H1 _ Q q => fun p hp => q p _ hp (Ex.new hp) upd_same
theorem en_dcopy {d : Addr} {kvs : List (Key × V)} (h : Ev te σ H (.ref d)) (hr : Rd H d (.dK kvs)) : EvN (tCB rDictC (tCons te tNil)) σ H (.dK kvs) := fun H1 e Q q =>
  h H1 e _ fun H2 e2 => ⟨d, kvs, rfl, ex_rd (e.trans e2) hr, fun l hl => q l _ (fresh_back e2 hl) (e2.trans (Ex.new hl)) upd_same⟩
theorem ev_fld {a C dx : Addr} {fs : List (Str × V)} {f : Str} (h : Ev te σ H (.ref a)) (ho : H a = some (.ins C dx fs)) (hc : Cls K C) (hn : NoAttr K C f) (hl : fs.lookup f = some v) : Ev (tFld K te f) σ H v := fun H1 e Q q =>
  h H1 e _ fun H2 e2 => ⟨a, C, dx, fs, v, rfl, e2 _ _ (e _ _ ho), hc, hn, hl, q H2 e2⟩
/-- d[k] = e -/
theorem s_dput {tv : TE} {d : Addr} {kvs : List (Key × V)} {k : Key} (hv : Ev tv σ H v) (hd : Ev td σ H (.ref d)) (hk : Ev ty σ H (kV k)) (ho : H d = some (.dK kvs)) (hz : kvs.length < sizeLine)
    (q : ∀ H1, Ex H H1 → D.nx σ (upd H1 d (.dK (putK kvs k v)))) : sDPut td ty tv D σ H :=
  hv H (Ex.refl H) _ fun H1 e1 => hd H1 e1 _ fun H2 e2 => hk H2 (e1.trans e2) _ fun H3 e3 => ⟨d, _, rfl, DPut.k ((e1.trans e2).trans e3 |> fun e => e _ _ ho) hz, q H3 ((e1.trans e2).trans e3)⟩
/-- name = something new -/
theorem s_asgN {i : Nat} {o : HO} (h : EvN te σ H o) (k : ∀ p H1, H p = none → Ex H H1 → H1 p = some o → D.nx (σ.set i (some (.ref p))) H1) : tAsg te (gName i) D σ H := h H (Ex.refl H) _ fun p H1 hp e h1 => k p H1 hp e h1
theorem s_asgX {i : Nat} {R : V → Hp → Prop} (h : EvX te σ H R) (k : ∀ v H1, Ex H H1 → R v H1 → D.nx (σ.set i (some v)) H1) : tAsg te (gName i) D σ H := h H (Ex.refl H) _ k
theorem s_retN {o : HO} (h : EvN te σ H o) (k : ∀ p H1, H p = none → Ex H H1 → H1 p = some o → D.rt (.ref p) H1) : tRet te D σ H := h H (Ex.refl H) _ fun p H1 hp e h1 => k p H1 hp e h1
theorem s_retX {R : V → Hp → Prop} (h : EvX te σ H R) (k : ∀ v H1, Ex H H1 → R v H1 → D.rt v H1) : tRet te D σ H := h H (Ex.refl H) _ k
/-- name += e -/
theorem s_augV {i : Nat} {ti : TIp} (hx : σ[i]? = some (some x)) (h : Ev te σ H y) (hr : RV ti x y H z) (k : ∀ H1, Ex H H1 → D.nx (σ.set i (some z)) H1) : tAug i te ti D σ H :=
  ⟨x, hx, h H (Ex.refl H) _ fun H1 e => hr H1 e _ fun H2 e2 => k H2 (e.trans e2)⟩
/-- for c in a text -/
theorem s_forS {a : Str} {tl : TE} (h : Ev tl σ H (.str a)) (Pv : Nat → L2.St → Hp → Prop) (h0 : ∀ H1, Ex H H1 → Pv 0 σ H1)
    (hs : ∀ (i c : Nat) σ' H', (TL.tl a)[i]? = some c → Pv i σ' H' → g (.str ⟨#[c]⟩) σ' H' fun σ2 H2 => tu { D with nx := Pv (i + 1), ct := Pv (i + 1), bk := D.nx } σ2 H2) (hd : ∀ σ' H', Pv (TL.tl a).length σ' H' → D.nx σ' H') : tFor (iStr tl) g tu D σ H :=
  h H (Ex.refl H) _ fun H1 e => ⟨a, rfl, fun i m σ' H' => m = (TL.tl a).length - i ∧ i ≤ (TL.tl a).length ∧ Pv i σ' H', ⟨_, rfl, Nat.zero_le _, h0 H1 e⟩, fun i m σ' H' w => by
    obtain ⟨rfl, hi, p⟩ := w
    have es : a.cps.size = (TL.tl a).length := by simp [TL.tl]
    by_cases hlt : i < (TL.tl a).length
    · refine .inr ⟨by show i < a.cps.size; omega, Pv (i + 1), fun σ2 H2 p' => ⟨(TL.tl a).length - (i + 1), by omega, rfl, hlt, p'⟩, fun x H2 y => ?_⟩
      obtain ⟨rfl, c, hc, rfl⟩ := y
      exact hs i c σ' _ (by rw [← hc]; simp [TL.tl]) p
    · have e : i = (TL.tl a).length := by omega
      subst e
      exact .inl ⟨by show a.cps.size ≤ _; omega, hd _ _ p⟩⟩
/-- for over a new list -/
theorem s_forN {xs : List V} {tl : TE} (h : EvN tl σ H (.lst xs)) (Pv : Addr → Nat → L2.St → Hp → Prop) (h0 : ∀ p H1, H p = none → Ex H H1 → H1 p = some (.lst xs) → Pv p 0 σ H1) (hl : ∀ p i σ' H', i ≤ xs.length → Pv p i σ' H' → SqL K H' p xs)
    (hs : ∀ p i x σ' H', xs[i]? = some x → Pv p i σ' H' → g x σ' H' fun σ2 H2 => tu { D with nx := Pv p (i + 1), ct := Pv p (i + 1), bk := D.nx } σ2 H2) (hd : ∀ p σ' H', Pv p xs.length σ' H' → D.nx σ' H') : tFor (iList K tl) g tu D σ H :=
  h H (Ex.refl H) _ fun p H1 hp e h1 => ⟨p, rfl, ⟨xs, sq_of h1⟩, for_list (Pv p) (h0 p H1 hp e h1) (hl p) (hs p) (hd p)⟩
end
end Kw


set_option Elab.async false
set_option linter.all false
set_option maxRecDepth 100000
set_option maxHeartbeats 4000000
/-! Kw5: small words for the walks; promises in set forms. -/
namespace Kw
open PySem PySem.Spec PyProof.Rows L2 Evl

theorem prp {p : Prop} (h : p) : p := h
theorem mulR {i j : Int} (h : -(2 ^ 64) < j ∧ j < 2 ^ 64) : CMul i j := .inr h
theorem mulL {i j : Int} (h : -(2 ^ 64) < i ∧ i < 2 ^ 64) : CMul i j := .inl h
theorem hu64_of {A : Around} {k : Nat} (hr : Room k A) : A.units + 64 < cLine := hr.units
theorem ex_at {H H' : Hp} {a : Addr} {o : HO} (e : Ex H H') (h : H a = some o) : H' a = some o := e a o h
theorem rd_of {H : Hp} {a : Addr} {o : HO} (h : H a = some o) : Rd H a o := .inl h
/-- promises: a value, given all that the heap grows by -/
def spV (R : List V → Hp → V → Prop) : Sp := fun vs H Q _ => ∃ v, R vs H v ∧ ∀ H', Ex H H' → Q v H'
/-- a new object -/
def spN (R : List V → Hp → HO → Prop) : Sp := fun vs H Q _ => ∃ o, R vs H o ∧ ∀ p H', H p = none → Ex H H' → H' p = some o → Q (.ref p) H'
/-- something of which S holds -/
def spX (R : List V → Hp → (V → Hp → Prop) → Prop) : Sp := fun vs H Q _ => ∃ S, R vs H S ∧ ∀ v H', Ex H H' → S v H' → Q v H'
section
variable {K : PySem.W.Frag} {σ : L2.St} {H : Hp} {ta tb te to tx td ty : TE} {t u : TT} {x y z v : V} {D : Ends} {t1 t2 tu tz tw : TS} {g : TG}
def Mono {α : Type} (R : List V → Hp → α → Prop) : Prop := ∀ vs H H' a, Ex H H' → R vs H a → R vs H' a
def tBad : TE := fun _ _ _ => False
def tBadT : TT := fun _ _ _ => False
def tBadA : TA := fun _ _ _ => False
theorem ev_bad (h : False) : Ev tBad σ H v := h.elim
theorem et_bad {b : Bool} (h : False) : EvT tBadT σ H b := h.elim
theorem ea_bad {vs : List V} (h : False) : EvA tBadA σ H vs := h.elim
theorem en_bad {o : HO} (h : False) : EvN tBad σ H o := h.elim
theorem et_is {b c : Bool} (h : EvT t σ H b) (e : b = c) : EvT t σ H c := e ▸ h
theorem ev_is (h : Ev te σ H v) (e : v = x) : Ev te σ H x := e ▸ h
theorem en_is {o o' : HO} (h : EvN te σ H o) (e : o = o') : EvN te σ H o' := e ▸ h
theorem ev_cl {R : List V → Hp → V → Prop} {vs : List V} {E : XK} {ta : TA} (m : Mono R) (h : EvA ta σ H vs) (r : R (vs ++ []) H z) : Ev (tCall (spV R) [] E ta) σ H z := fun H1 e Q q =>
  h H1 e _ fun H2 e2 => ⟨z, m _ _ _ _ (e.trans e2) r, fun H3 e3 => q H3 (e2.trans e3)⟩
theorem en_cl {R : List V → Hp → HO → Prop} {vs : List V} {E : XK} {ta : TA} {o : HO} (m : Mono R) (h : EvA ta σ H vs) (r : R (vs ++ []) H o) : EvN (tCall (spN R) [] E ta) σ H o := fun H1 e Q q =>
  h H1 e _ fun H2 e2 => ⟨o, m _ _ _ _ (e.trans e2) r, fun p H3 hp e3 h3 => q p H3 (fresh_back e2 hp) (e2.trans e3) h3⟩
theorem q_asgN {i : Nat} {o : HO} (h : EvN te σ H o) (k : ∀ p H1, H p = none → Ex H H1 → H1 p = some o → tz D (σ.set i (some (.ref p))) H1) : tSeq (tAsg te (gName i)) tz D σ H := s_asgN (D := { D with nx := tz D }) h k
theorem q_asgX {i : Nat} {R : V → Hp → Prop} (h : EvX te σ H R) (k : ∀ v H1, Ex H H1 → R v H1 → tz D (σ.set i (some v)) H1) : tSeq (tAsg te (gName i)) tz D σ H := s_asgX (D := { D with nx := tz D }) h k
theorem q_dput {tv : TE} {d : Addr} {kvs : List (Key × V)} {k : Key} (hv : Ev tv σ H v) (hd : Ev td σ H (.ref d)) (hk : Ev ty σ H (kV k)) (ho : H d = some (.dK kvs)) (hz : kvs.length < sizeLine)
    (q : ∀ H1, Ex H H1 → tz D σ (upd H1 d (.dK (putK kvs k v)))) : tSeq (sDPut td ty tv) tz D σ H := s_dput (D := { D with nx := tz D }) hv hd hk ho hz q
theorem q_augV {i : Nat} {ti : TIp} (hx : σ[i]? = some (some x)) (h : Ev te σ H y) (hr : RV ti x y H z) (k : ∀ H1, Ex H H1 → tz D (σ.set i (some z)) H1) : tSeq (tAug i te ti) tz D σ H := s_augV (D := { D with nx := tz D }) hx h hr k
theorem q_forS {a : Str} {tl : TE} (h : Ev tl σ H (.str a)) (Pv : Nat → L2.St → Hp → Prop) (h0 : ∀ H1, Ex H H1 → Pv 0 σ H1)
    (hs : ∀ (i c : Nat) σ' H', (TL.tl a)[i]? = some c → Pv i σ' H' → g (.str ⟨#[c]⟩) σ' H' fun σ2 H2 => tu { D with nx := Pv (i + 1), ct := Pv (i + 1), bk := tz D } σ2 H2) (hd : ∀ σ' H', Pv (TL.tl a).length σ' H' → tz D σ' H') : tSeq (tFor (iStr tl) g tu) tz D σ H :=
  s_forS (D := { D with nx := tz D }) h Pv h0 hs hd
theorem q_forN {xs : List V} {tl : TE} (h : EvN tl σ H (.lst xs)) (Pv : Addr → Nat → L2.St → Hp → Prop) (h0 : ∀ p H1, H p = none → Ex H H1 → H1 p = some (.lst xs) → Pv p 0 σ H1) (hl : ∀ p i σ' H', i ≤ xs.length → Pv p i σ' H' → SqL K H' p xs)
    (hs : ∀ p i x σ' H', xs[i]? = some x → Pv p i σ' H' → g x σ' H' fun σ2 H2 => tu { D with nx := Pv p (i + 1), ct := Pv p (i + 1), bk := tz D } σ2 H2) (hd : ∀ p σ' H', Pv p xs.length σ' H' → tz D σ' H') : tSeq (tFor (iList K tl) g tu) tz D σ H :=
  s_forN (D := { D with nx := tz D }) h Pv h0 hl hs hd
theorem q_ret (h : Ev te σ H v) (k : ∀ H1, Ex H H1 → D.rt v H1) : tSeq (tRet te) tz D σ H := s_ret (D := { D with nx := tz D }) h k
/-- a, b = e, e2 -/
theorem s_par {i j : Nat} {ta tb : TE} (h1 : Ev ta σ H x) (h2 : Ev tb σ H y) (k : ∀ H1, Ex H H1 → D.nx ((σ.set i (some x)).set j (some y)) H1) : tPar i j (tCons ta (tCons tb tNil)) D σ H :=
  h1 H (Ex.refl H) _ fun H1 e1 => h2 H1 e1 _ fun H2 e2 => ⟨x, y, rfl, k H2 (e1.trans e2)⟩
theorem q_par {i j : Nat} {ta tb : TE} (h1 : Ev ta σ H x) (h2 : Ev tb σ H y) (k : ∀ H1, Ex H H1 → tz D ((σ.set i (some x)).set j (some y)) H1) : tSeq (tPar i j (tCons ta (tCons tb tNil))) tz D σ H := s_par (D := { D with nx := tz D }) h1 h2 k
end
end Kw


set_option Elab.async false
set_option linter.all false
set_option maxRecDepth 100000
set_option maxHeartbeats 9000000
/-! Kw6: list comprehensions, what they give, from any source. -/
namespace Kw
open PySem PySem.Spec PyProof.Rows L2 Evl

/-- what is read stays read -/
def Vm (H H' : Hp) : Prop := ∀ a u, (∀ o w, u ≠ .frz o w) → Rd H a u → Rd H' a u
theorem Vm.refl (H : Hp) : Vm H H := fun _ _ _ h => h
theorem Vm.trans {H H1 H2 : Hp} (a : Vm H H1) (b : Vm H1 H2) : Vm H H2 := fun x u n h => b x u n (a x u n h)
theorem vm_of {H H' : Hp} (e : Ex H H') : Vm H H' := fun _ _ _ h => ex_rd e h
theorem vm_lock {H B : Hp} {d : Addr} {od : Obj} {kvs : List (Key × V)} (l : LkB H B d od kvs) : Vm H B := fun _ _ n h => l.read h n
theorem vm_un {H1 H' Hf : Hp} {d : Addr} {od : Obj} {kvs : List (Key × V)} (hd : H' d = some (.frz od (.dK kvs))) (rd : Rd H1 d (.dK kvs)) (h1 : ∀ a, a ≠ d → Hf a = H' a) (h2 : Hf d = H1 d) : Vm H' Hf := fun a u n h => by
  by_cases e : a = d
  · subst e
    have hu : u = .dK kvs := by
      rcases h with h | ⟨o, h⟩
      · rw [hd] at h; cases h; exact (n _ _ rfl).elim
      · rw [hd] at h; cases h; rfl
    subst hu
    rcases rd with g | ⟨o, g⟩
    · exact .inl (by rw [h2]; exact g)
    · exact .inr ⟨o, by rw [h2]; exact g⟩
  · rcases h with h | ⟨o, h⟩
    · exact .inl (by rw [h1 a e]; exact h)
    · exact .inr ⟨o, by rw [h1 a e]; exact h⟩
theorem vm_rd {H H' : Hp} {a : Addr} {es : List (Key × V)} (e : Vm H H') (h : Rd H a (.dK es)) : Rd H' a (.dK es) := e _ _ (fun _ _ z => nomatch z) h
theorem vm_l {K : PySem.W.Frag} {H H' : Hp} {a : Addr} {xs : List V} (e : Vm H H') (h : SqL K H a xs) : SqL K H' a xs := h.elim (fun h => .inl (e _ _ (fun _ _ z => nomatch z) h)) .inr
theorem vm_t {K : PySem.W.Frag} {H H' : Hp} {a : Addr} {xs : List V} (e : Vm H H') (h : SqT K H a xs) : SqT K H' a xs := h.elim (fun h => .inl (e _ _ (fun _ _ z => nomatch z) h)) .inr

/-- the dict with the lock is new to H -/
theorem LkB.new {H H2 B : Hp} {d : Addr} {od : Obj} {kvs : List (Key × V)} (l : LkB H2 B d od kvs) (e : Ex H H2) (hn : H d = none) : Ex H B := fun a o h => by
  have z : a ≠ d := fun z => by rw [z, hn] at h; cases h
  rw [l.off a z]
  exact e _ _ h
/-- the lock away, for what was not there -/
theorem ex_un {H H' Hf : Hp} {d : Addr} (e : Ex H H') (hn : H d = none) (h1 : ∀ a, a ≠ d → Hf a = H' a) : Ex H Hf := fun a o h => by
  have z : a ≠ d := fun z => by rw [z, hn] at h; cases h
  rw [h1 a z]
  exact e _ _ h
/-- what is read, lists aside, stays read -/
def Vt (H H' : Hp) : Prop := ∀ a u, (∀ o w, u ≠ .frz o w) → (∀ xs, u ≠ .lst xs) → Rd H a u → Rd H' a u
theorem vt_of {H H' : Hp} (e : Vm H H') : Vt H H' := fun a u n _ h => e a u n h
theorem vt_ex {H H' : Hp} (e : Ex H H') : Vt H H' := vt_of (vm_of e)
theorem Vt.trans {H H1 H2 : Hp} (a : Vt H H1) (b : Vt H1 H2) : Vt H H2 := fun x u n m h => b x u n m (a x u n m h)
theorem vt_upd {H : Hp} {L : Addr} {xs ys : List V} (h : H L = some (.lst xs)) : Vt H (upd H L (.lst ys)) := fun a u n m r => by
  by_cases e : a = L
  · subst e
    rcases r with r | ⟨o, r⟩
    · rw [h] at r; cases r; exact (m _ rfl).elim
    · rw [h] at r; cases r
  · rcases r with r | ⟨o, r⟩
    · exact .inl (by rw [upd_ne e]; exact r)
    · exact .inr ⟨o, by rw [upd_ne e]; exact r⟩
theorem vt_t {K : PySem.W.Frag} {H H' : Hp} {a : Addr} {xs : List V} (e : Vt H H') (h : SqT K H a xs) : SqT K H' a xs := h.elim (fun h => .inl (e _ _ (fun _ _ z => nomatch z) (fun _ z => nomatch z) h)) .inr
theorem vt_rd {H H' : Hp} {a : Addr} {es : List (Key × V)} (e : Vt H H') (h : Rd H a (.dK es)) : Rd H' a (.dK es) := e _ _ (fun _ _ z => nomatch z) (fun _ z => nomatch z) h
/-- a new object of which R holds -/
def EvP (te : TE) (σ : L2.St) (H : Hp) (R : Addr → Hp → Prop) : Prop := ∀ H1, Ex H H1 → ∀ Q : VK, (∀ p H2, H1 p = none → Ex H1 H2 → R p H2 → Q (.ref p) H2) → te σ H1 Q
section
variable {α : Type} {K : PySem.W.Frag} {σ : L2.St} {H : Hp} {tt : TT} {te tl : TE} {vs : List Nat} {j : Nat}
theorem evP_N {o : HO} (h : EvP te σ H (fun p H' => H' p = some o)) : EvN te σ H o := h
theorem EvP.use {R : Addr → Hp → Prop} (h : EvP te σ H R) {Q : VK} (q : ∀ p H2, H p = none → Ex H H2 → R p H2 → Q (.ref p) H2) : te σ H Q := h H (Ex.refl H) Q q
theorem EvP.mono {R : Addr → Hp → Prop} {H' : Hp} (h : EvP te σ H R) (e : Ex H H') : EvP te σ H' R := fun H1 a Q q => h H1 (e.trans a) Q q
theorem EvX.mono {R : V → Hp → Prop} {H' : Hp} (h : EvX te σ H R) (e : Ex H H') : EvX te σ H' R := fun H1 a Q q => h H1 (e.trans a) Q q
theorem evP_X {R : Addr → Hp → Prop} (h : EvP te σ H R) : EvX te σ H (fun v H' => ∃ p, v = .ref p ∧ R p H') := fun H1 e Q q => h H1 e Q fun p H2 _ e2 r => q _ H2 e2 ⟨p, rfl, r⟩
theorem EvX.imp {R S : V → Hp → Prop} (h : EvX te σ H R) (k : ∀ v H', Ex H H' → R v H' → S v H') : EvX te σ H S := fun H1 e Q q => h H1 e Q fun v H2 e2 r => q v H2 e2 (k v H2 (e.trans e2) r)
theorem EvP.imp {R S : Addr → Hp → Prop} (h : EvP te σ H R) (k : ∀ p H', Ex H H' → R p H' → S p H') : EvP te σ H S := fun H1 e Q q => h H1 e Q fun v H2 n e2 r => q v H2 n e2 (k v H2 (e.trans e2) r)
/-- the list so far -/
def Gv (R : α → V → Hp → Prop) (as : List α) (H' : Hp) (acc : List V) : Prop := Paired (fun v a => R a v H') acc as
theorem gv_mono {R : α → V → Hp → Prop} {as : List α} {H H' : Hp} {acc : List V} (m : ∀ a v, a ∈ as → R a v H → R a v H') (h : Gv R as H acc) : Gv R as H' acc := by
  unfold Gv at *
  induction h with
  | nil => exact .nil
  | cons h1 _ ih => exact .cons (m _ _ (List.mem_cons_self ..) h1) (ih fun a v ha => m a v (List.mem_cons_of_mem _ ha))
theorem paired_snoc {β γ : Type} {P : β → γ → Prop} {xs : List β} {ys : List γ} {x : β} {y : γ} (h : Paired P xs ys) (g : P x y) : Paired P (xs ++ [x]) (ys ++ [y]) := by
  induction h with
  | nil => exact .cons g .nil
  | cons h1 _ ih => exact .cons h1 ih
theorem gv_pair {β γ : Type} {F G : β → γ → Prop} (k : ∀ a b, F a b → G a b) : ∀ {xs : List β} {ys : List γ}, Paired F xs ys → Paired G xs ys
  | _, _, .nil => .nil
  | _, _, .cons h t => .cons (k _ _ h) (gv_pair k t)
theorem gv_val {f : α → V} {as : List α} {H : Hp} {acc : List V} (h : Gv (fun a v _ => v = f a) as H acc) : acc = as.map f := by
  unfold Gv at h
  induction h with
  | nil => rfl
  | cons h1 _ ih => rw [h1, ih]; rfl
def Cv (B : Hp) (as : List α) (b : α → Bool) (R : α → V → Hp → Prop) (L : Addr) (i : Nat) (H' : Hp) : Prop := B L = none ∧ Ex B H' ∧ ∃ acc, H' L = some (.lst acc) ∧ Gv R ((as.take i).filter b) H' acc
theorem cv_turn {B H' : Hp} {as : List α} {b : α → Bool} {R : α → V → Hp → Prop} {L : Addr} {i : Nat} {a : α} {σ2 : L2.St} (m : ∀ a v H H', Vt H H' → R a v H → R a v H') (hz : as.length ≤ 90000) (p : Cv B as b R L i H') (hi : as[i]? = some a)
    (ht : EvT tt σ2 B (b a)) (he : b a = true → EvX te σ2 B (R a)) :
    tt σ2 H' fun c H3 => if c = true then te σ2 H3 fun y H4 => ∃ acc, H4 L = some (.lst acc) ∧ acc.length < sizeLine ∧ Cv B as b R L (i + 1) (upd H4 L (.lst (acc ++ [y]))) else Cv B as b R L (i + 1) H3 := by
  obtain ⟨p1, p2, acc, p3, p4⟩ := p
  obtain ⟨hlt, rfl⟩ := List.getElem?_eq_some_iff.mp hi
  refine ht H' p2 _ fun H3 e3 => ?_
  have hl : acc.length ≤ 90000 := by
    have h1 : acc.length = ((as.take i).filter b).length := Paired.length p4
    have h2 := List.length_filter_le b (as.take i)
    rw [List.length_take] at h2
    omega
  cases hb : b as[i] with
  | true =>
    show te σ2 H3 fun y H4 => ∃ acc, H4 L = some (.lst acc) ∧ acc.length < sizeLine ∧ Cv B as b R L (i + 1) (upd H4 L (.lst (acc ++ [y])))
    refine he hb H3 (p2.trans e3) _ fun y H4 e4 r => ⟨acc, e4 L _ (e3 L _ p3), sz_lt (by omega), p1, Ex.mut ((p2.trans e3).trans e4) p1, acc ++ [y], upd_same, ?_⟩
    rw [List.take_succ_eq_append_getElem hlt, List.filter_append]
    have e0 : [as[i]].filter b = [as[i]] := by simp [hb]
    rw [e0]
    have e5 : Vt H4 (upd H4 L (.lst (acc ++ [y]))) := vt_upd (e4 L _ (e3 L _ p3))
    exact paired_snoc (gv_mono (fun a v _ r => m a v _ _ ((vt_ex (e3.trans e4)).trans e5) r) p4) (m _ _ _ _ e5 r)
  | false =>
    show Cv B as b R L (i + 1) H3
    refine ⟨p1, p2.trans e3, acc, e3 L _ p3, ?_⟩
    rw [List.take_succ_eq_append_getElem hlt, List.filter_append]
    have e0 : [as[i]].filter b = [] := by simp [hb]
    rw [e0, List.append_nil]
    exact gv_mono (fun a v _ r => m a v _ _ (vt_ex e3) r) p4
/-- what a comprehension gives -/
def Lc (as : List α) (b : α → Bool) (R : α → V → Hp → Prop) (p : Addr) (H' : Hp) : Prop := ∃ acc, H' p = some (.lst acc) ∧ Gv R (as.filter b) H' acc
variable {as : List α} {enc : α → V} {b : α → Bool} {R : α → V → Hp → Prop}
theorem cv_done {B H' : Hp} {L : Addr} (p : Cv B as b R L as.length H') : B L = none ∧ Ex B H' ∧ Lc as b R L H' := by
  obtain ⟨p1, p2, acc, p3, p4⟩ := p
  rw [List.take_length] at p4
  exact ⟨p1, p2, acc, p3, p4⟩
theorem cv_0 {B : Hp} {L : Addr} (h : B L = none) : Cv B as b R L 0 (upd B L (.lst [])) := ⟨h, Ex.new h, [], upd_same, by simp [Gv]; exact .nil⟩
theorem map_at {i : Nat} {x : V} (h : (as.map enc)[i]? = some x) : ∃ a, as[i]? = some a ∧ x = enc a := by
  rw [List.getElem?_map] at h
  cases e : as[i]? with
  | none => rw [e] at h; cases h
  | some a => rw [e] at h; cases h; exact ⟨a, rfl, rfl⟩
theorem map_at' {i : Nat} {x : V} (h : (as.map enc)[i]? = some x) : ∃ a, a ∈ as ∧ as[i]? = some a ∧ x = enc a := by
  obtain ⟨a, e, r⟩ := map_at h
  exact ⟨a, List.mem_of_getElem? e, e, r⟩
/-- over a new list -/
theorem lc_N (as : List α) (enc : α → V) (b : α → Bool) (R : α → V → Hp → Prop) (h : EvN tl σ H (.lst (as.map enc))) (hz : as.length ≤ 90000) (hw : ∀ x, wipe ((wipe σ vs).set j (some x)) vs = wipe σ vs) (m : ∀ a v H H', Vt H H' → R a v H → R a v H')
    (ht : ∀ a H1, a ∈ as → Ex H H1 → EvT tt ((wipe σ vs).set j (some (enc a))) H1 (b a)) (he : ∀ a H1, a ∈ as → b a = true → Ex H H1 → EvX te ((wipe σ vs).set j (some (enc a))) H1 (R a)) :
    EvP (tLc (iList K tl) (gName j) tt te vs) σ H (Lc as b R) := fun H0 e Q q => h H0 e _ fun a H1 ha e1 hx => ⟨a, rfl, ⟨_, sq_of hx⟩, fun L hL =>
  lc_list (xs := as.map enc) (Cv H1 as b R L) (cv_0 hL) (fun i H' _ p => sq_of (p.2.1 a _ hx)) (fun i x H' hi p => by
    obtain ⟨y, my, ey, rfl⟩ := map_at' hi
    exact ⟨hw _, cv_turn m hz p ey (ht y H1 my (e.trans e1)) fun hb => he y H1 my hb (e.trans e1)⟩)
    (fun H' p => by
      rw [List.length_map] at p
      obtain ⟨p1, p2, p3⟩ := cv_done p
      exact q L H' (fresh_back e1 p1) (e1.trans p2) p3)⟩
/-- over a list -/
theorem lc_L (as : List α) (enc : α → V) (b : α → Bool) (R : α → V → Hp → Prop) {p : Addr} (h : Ev tl σ H (.ref p)) (hx : SqL K H p (as.map enc)) (hz : as.length ≤ 90000) (hw : ∀ x, wipe ((wipe σ vs).set j (some x)) vs = wipe σ vs) (m : ∀ a v H H', Vt H H' → R a v H → R a v H')
    (ht : ∀ a H1, a ∈ as → Ex H H1 → EvT tt ((wipe σ vs).set j (some (enc a))) H1 (b a)) (he : ∀ a H1, a ∈ as → b a = true → Ex H H1 → EvX te ((wipe σ vs).set j (some (enc a))) H1 (R a)) :
    EvP (tLc (iList K tl) (gName j) tt te vs) σ H (Lc as b R) := fun H0 e Q q => h H0 e _ fun H1 e1 => ⟨p, rfl, ⟨_, ex_l (e.trans e1) hx⟩, fun L hL =>
  lc_list (xs := as.map enc) (Cv H1 as b R L) (cv_0 hL) (fun i H' _ q => ex_l ((e.trans e1).trans q.2.1) hx) (fun i x H' hi q => by
    obtain ⟨y, my, ey, rfl⟩ := map_at' hi
    exact ⟨hw _, cv_turn m hz q ey (ht y H1 my (e.trans e1)) fun hb => he y H1 my hb (e.trans e1)⟩)
    (fun H' g => by
      rw [List.length_map] at g
      obtain ⟨p1, p2, p3⟩ := cv_done g
      exact q L H' (fresh_back e1 p1) (e1.trans p2) p3)⟩
/-- over a tuple -/
theorem lc_T (as : List α) (enc : α → V) (b : α → Bool) (R : α → V → Hp → Prop) (h : EvX tl σ H (fun v H' => ∃ p, v = .ref p ∧ SqT K H' p (as.map enc))) (hz : as.length ≤ 90000) (hw : ∀ x, wipe ((wipe σ vs).set j (some x)) vs = wipe σ vs) (m : ∀ a v H H', Vt H H' → R a v H → R a v H')
    (ht : ∀ a H1, a ∈ as → Ex H H1 → EvT tt ((wipe σ vs).set j (some (enc a))) H1 (b a)) (he : ∀ a H1, a ∈ as → b a = true → Ex H H1 → EvX te ((wipe σ vs).set j (some (enc a))) H1 (R a)) :
    EvP (tLc (iTup K tl) (gName j) tt te vs) σ H (Lc as b R) := fun H0 e Q q => h H0 e _ fun v H1 e1 hv => by
  obtain ⟨p, rfl, hx⟩ := hv
  exact ⟨p, rfl, ⟨_, hx⟩, fun L hL =>
    lc_tup (xs := as.map enc) (Cv H1 as b R L) (cv_0 hL) (fun i H' _ q => ex_t q.2.1 hx) (fun i x H' hi q => by
      obtain ⟨y, my, ey, rfl⟩ := map_at' hi
      exact ⟨hw _, cv_turn m hz q ey (ht y H1 my (e.trans e1)) fun hb => he y H1 my hb (e.trans e1)⟩)
      (fun H' g => by
        rw [List.length_map] at g
        obtain ⟨p1, p2, p3⟩ := cv_done g
        exact q L H' (fresh_back e1 p1) (e1.trans p2) p3)⟩
theorem range_at {n i : Nat} (h : i < n) : (List.range n)[i]? = some i := by simp [h]
/-- over range(n), range(lo, n) -/
theorem lc_R1 {ta : TA} {n : Int} (b : Nat → Bool) (R : Nat → V → Hp → Prop) (h : EvA ta σ H [.int n]) (hn : 0 ≤ n ∧ n ≤ 90000) (hw : ∀ x, wipe ((wipe σ vs).set j (some x)) vs = wipe σ vs) (m : ∀ a v H H', Vt H H' → R a v H → R a v H')
    (ht : ∀ a H1, a < n.toNat → Ex H H1 → EvT tt ((wipe σ vs).set j (some (.int (a : Int)))) H1 (b a)) (he : ∀ a H1, a < n.toNat → b a = true → Ex H H1 → EvX te ((wipe σ vs).set j (some (.int (a : Int)))) H1 (R a)) :
    EvP (tLc (iRng1 ta) (gName j) tt te vs) σ H (Lc (List.range n.toNat) b R) := fun H0 e Q q => h H0 e _ fun H1 e1 => ⟨n, rfl, by omega, by omega, fun L hL =>
  lc_range (lo := 0) (n := n.toNat) (Cv H1 (List.range n.toNat) b R L) (cv_0 hL) (fun i H' hi p => by
    have e0 : (0 : Int) + (i : Int) = (i : Int) := Int.zero_add _
    show wipe ((wipe σ vs).set j (some (.int ((0 : Int) + (i : Int))))) vs = wipe σ vs ∧ _
    rw [e0]
    exact ⟨hw _, cv_turn m (by rw [List.length_range]; omega) p (range_at hi) (ht i H1 hi (e.trans e1)) fun hb => he i H1 hi hb (e.trans e1)⟩)
    (fun H' g => by
      have g' : Cv H1 (List.range n.toNat) b R L (List.range n.toNat).length H' := by rw [List.length_range]; exact g
      obtain ⟨p1, p2, p3⟩ := cv_done g'
      exact q L H' (fresh_back e1 p1) (e1.trans p2) p3)⟩
theorem lc_R2 {ta : TA} {lo n : Int} (b : Nat → Bool) (R : Nat → V → Hp → Prop) (h : EvA ta σ H [.int lo, .int n]) (hn : 0 ≤ lo ∧ lo ≤ 90000 ∧ -90000 ≤ n ∧ n ≤ 90000) (hw : ∀ x, wipe ((wipe σ vs).set j (some x)) vs = wipe σ vs) (m : ∀ a v H H', Vt H H' → R a v H → R a v H')
    (ht : ∀ a H1, a < (n - lo).toNat → Ex H H1 → EvT tt ((wipe σ vs).set j (some (.int (lo + (a : Int))))) H1 (b a)) (he : ∀ a H1, a < (n - lo).toNat → b a = true → Ex H H1 → EvX te ((wipe σ vs).set j (some (.int (lo + (a : Int))))) H1 (R a)) :
    EvP (tLc (iRng2 ta) (gName j) tt te vs) σ H (Lc (List.range (n - lo).toNat) b R) := fun H0 e Q q => h H0 e _ fun H1 e1 => ⟨lo, n, rfl, ⟨by omega, by omega, by omega, by omega⟩, fun L hL =>
  lc_range (lo := lo) (n := (n - lo).toNat) (Cv H1 (List.range (n - lo).toNat) b R L) (cv_0 hL) (fun i H' hi p =>
    ⟨hw _, cv_turn m (by rw [List.length_range]; omega) p (range_at hi) (ht i H1 hi (e.trans e1)) fun hb => he i H1 hi hb (e.trans e1)⟩)
    (fun H' g => by
      have g' : Cv H1 (List.range (n - lo).toNat) b R L (List.range (n - lo).toNat).length H' := by rw [List.length_range]; exact g
      obtain ⟨p1, p2, p3⟩ := cv_done g'
      exact q L H' (fresh_back e1 p1) (e1.trans p2) p3)⟩
/-- over a dict's keys: the elements are told on the heap with the lock -/
theorem lc_K {td : TE} {X : Cx} {kvs : List (Key × V)} (b : Key × V → Bool) (R : Key × V → V → Hp → Prop) (h : EvX td σ H (fun v H' => ∃ d, v = .ref d ∧ Rd H' d (.dK kvs))) (hz : kvs.length ≤ 90000) (hw : ∀ x, wipe ((wipe σ vs).set j (some x)) vs = wipe σ vs) (m : ∀ a v H H', Vt H H' → R a v H → R a v H')
    (body : ∀ d H1 B od, Ex H H1 → Rd H1 d (.dK kvs) → LkB H1 B d od kvs → ∀ a, a ∈ kvs → EvT tt ((wipe σ vs).set j (some (kV a.1))) B (b a) ∧ (b a = true → EvX te ((wipe σ vs).set j (some (kV a.1))) B (R a))) :
    EvP (fun σ H Q => tLc (iKeys (lkA (NF X) td)) (gName j) tt te vs σ H fun v H' => unP (NF X) (Q v) H') σ H (Lc kvs b R) := fun H0 e Q q =>
  lc_keys (C := fun _ => True) (te := td) (kvs := kvs) (Q := Q) (fun Q' q' => h H0 e _ fun v H1 e1 hv => by obtain ⟨d, rfl, hd⟩ := hv; exact q' d H1 trivial e1 hd) fun d H1 B od _ e1 l L hL => by
    refine ⟨fun i H' => Cv B kvs b R L i H', cv_0 hL, fun i H' p => p.2.1 d _ l.there, fun i k v H' hi p => ?_, fun H' p Hf h1 h2 => ?_⟩
    · have hb := body d H1 B od (e.trans e1) l.rd l (k, v) (List.mem_of_getElem? hi)
      exact ⟨hw _, cv_turn m hz p hi hb.1 hb.2⟩
    · obtain ⟨p1, p2, acc, p3, p4⟩ := cv_done p
      have hd : H' d = some (.frz od (.dK kvs)) := p2 d _ l.there
      have ne : L ≠ d := fun z => by rw [z, hd] at p3; cases p3
      have vm : Vt H' Hf := vt_of (vm_un hd l.rd h1 h2)
      exact q L Hf (fresh_back e1 (l.no' p1)) (e1.trans (l.back p2 h1 h2)) ⟨acc, by rw [h1 L ne]; exact p3, gv_mono (fun a v _ r => m a v _ _ vm r) p4⟩
/-- elements by their values -/
theorem lc_val {f : α → V} {p : Addr} {H' : Hp} (h : Lc as b (fun a v _ => v = f a) p H') : H' p = some (.lst ((as.filter b).map f)) := by
  obtain ⟨acc, e, g⟩ := h
  rw [e, gv_val g]
theorem en_lc {tc : TE} {f : α → V} (h : EvP tc σ H (Lc as b (fun a v _ => v = f a))) : EvN tc σ H (.lst ((as.filter b).map f)) := h.imp fun _ _ _ => lc_val
theorem filter_true (as : List α) : as.filter (fun _ => true) = as := by simp
theorem en_lcT {tc : TE} {f : α → V} (h : EvP tc σ H (Lc as (fun _ => true) (fun a v _ => v = f a))) : EvN tc σ H (.lst (as.map f)) := h.imp fun _ _ _ r => by
  have z := lc_val r
  rw [filter_true] at z
  exact z
theorem et_yes : EvT tYes σ H true := fun H1 _ _ q => q H1 (Ex.refl H1)
/-- tuple(a new list) -/
theorem ep_tup {tc : TE} {S : List V → Hp → Prop} (m : ∀ xs H H', Ex H H' → S xs H → S xs H') (h : EvP tc σ H (fun p H' => ∃ xs, H' p = some (.lst xs) ∧ S xs H')) : EvP (tCB (rTup K) (tCons tc tNil)) σ H (fun p H' => ∃ xs, H' p = some (.tup xs) ∧ S xs H') := fun H1 e Q q =>
  h H1 e _ fun p H2 _ e2 ⟨xs, hp, hs⟩ => ⟨p, xs, rfl, .inl ⟨sq_of hp, fun l hl => q l _ (fresh_back e2 hl) (e2.trans (Ex.new hl)) ⟨xs, upd_same, m _ _ _ (Ex.new hl) hs⟩⟩⟩
theorem s_retP {tc : TE} {D : Ends} {S : Addr → Hp → Prop} (h : EvP tc σ H S) (k : ∀ p H1, H p = none → Ex H H1 → S p H1 → D.rt (.ref p) H1) : tRet tc D σ H := h H (Ex.refl H) _ fun p H1 hp e hs => k p H1 hp e hs
theorem s_asgP {i : Nat} {tc : TE} {D : Ends} {S : Addr → Hp → Prop} (h : EvP tc σ H S) (k : ∀ p H1, H p = none → Ex H H1 → S p H1 → D.nx (σ.set i (some (.ref p))) H1) : tAsg tc (gName i) D σ H := h H (Ex.refl H) _ fun p H1 hp e hs => k p H1 hp e hs
theorem q_asgP {i : Nat} {tc : TE} {tz : TS} {D : Ends} {S : Addr → Hp → Prop} (h : EvP tc σ H S) (k : ∀ p H1, H p = none → Ex H H1 → S p H1 → tz D (σ.set i (some (.ref p))) H1) : tSeq (tAsg tc (gName i)) tz D σ H := s_asgP (D := { D with nx := tz D }) h k
/-- dict of pairs just listed -/
theorem en_dictP {tc : TE} {kv : α → Key × V} (h : EvP tc σ H (Lc as b (fun a v H' => ∃ p, v = .ref p ∧ SqT K H' p [kV (kv a).1, (kv a).2]))) : EvN (tCB (rDictP K) (tCons tc tNil)) σ H (.dK (mergeK [] ((as.filter b).map kv))) := fun H1 e Q q =>
  h H1 e _ fun L H2 hn e2 hr => by
    obtain ⟨acc, hL, g⟩ := hr
    have : ∀ {as : List α} {acc : List V}, Gv (fun a v H' => ∃ p, v = .ref p ∧ SqT K H' p [kV (kv a).1, (kv a).2]) as H2 acc → ∃ ps : List Addr, acc = ps.map V.ref ∧ Paired (fun p kv => SqT K H2 p [kV kv.1, kv.2]) ps (as.map kv) := fun {as acc} g => by
      unfold Gv at g
      induction g with
      | nil => exact ⟨[], rfl, .nil⟩
      | cons h1 _ ih =>
        obtain ⟨p, rfl, hp⟩ := h1
        obtain ⟨ps, rfl, hps⟩ := ih
        exact ⟨p :: ps, rfl, .cons hp hps⟩
    obtain ⟨ps, rfl, hps⟩ := this g
    exact ⟨L, ps, _, rfl, sq_of hL, hps, fun p hp => q p _ (fresh_back e2 hp) (e2.trans (Ex.new hp)) upd_same⟩
/-- x in (a, b, ..) -/
theorem ev_inTup {x : V} {ta : TE} {tu : TA} {xs : List V} (ha : Ev ta σ H x) (hb : EvA tu σ H xs) (hl : xs.length ≤ 100000) (hx : flatV x = true) (hf : xs.all flatV = true) : Ev (tOp (rIn K false) ta (tTup tu)) σ H (.bl (inV x xs)) := ev_inU ha (eu_tup hb hl) hx hf
theorem ev_niTup {x : V} {ta : TE} {tu : TA} {xs : List V} (ha : Ev ta σ H x) (hb : EvA tu σ H xs) (hl : xs.length ≤ 100000) (hx : flatV x = true) (hf : xs.all flatV = true) : Ev (tOp (rIn K true) ta (tTup tu)) σ H (.bl (!inV x xs)) := ev_niU ha (eu_tup hb hl) hx hf
/-- a tuple just made -/
theorem ex_tup {ta : TA} {ws : List V} (h : EvA ta σ H ws) (hl : ws.length ≤ 100000) : EvX (tTup ta) σ H (fun v H' => ∃ p, v = .ref p ∧ SqT K H' p ws) := fun H1 e _ q =>
  h H1 e _ fun H2 e2 => ⟨sz_of hl, fun p hp => q _ _ (e2.trans (Ex.new hp)) ⟨p, rfl, st_of upd_same⟩⟩
theorem m_val {f : α → V} : ∀ (a : α) (v : V) (H H' : Hp), Vt H H' → v = f a → v = f a := fun _ _ _ _ _ h => h
theorem m_tup {ws : α → List V} : ∀ (a : α) (v : V) (H H' : Hp), Vt H H' → (∃ p, v = V.ref p ∧ SqT K H p (ws a)) → ∃ p, v = V.ref p ∧ SqT K H' p (ws a) := fun _ _ _ _ e ⟨p, h, r⟩ => ⟨p, h, vt_t e r⟩
end
/-- a comprehension whose readings are told within the block, and then without it -/
theorem pe_lcF {X : Cx} {elt tg iter : Expr} {ifs : List Expr} {scope : Scope} {own : List (Str × Nat)} {pos : Pos} {wi : TI} {g : TG} {tt : TT} {te : TE}
    {gF : Shared → Hp → Addr → List (Str × Addr) → List Addr → TG} {tF : Shared → Hp → Addr → List (Str × Addr) → List Addr → TT} {eF : Shared → Hp → Addr → List (Str × Addr) → List Addr → TE}
    (hc : X.calm = true) (hN : X.N.Nodup) (hi : PI X tg iter wi) (ok : BlkOk X.N X.env.scope scope own)
    (hg : ∀ s H C cl fp, PG (X.blk s H scope (compEnvC scope cl C X.env) fp) tg (gF s H C cl fp)) (ht : ∀ s H C cl fp, PTs (X.blk s H scope (compEnvC scope cl C X.env) fp) ifs (tF s H C cl fp))
    (he : ∀ s H C cl fp, PE (X.blk s H scope (compEnvC scope cl C X.env) fp) elt (eF s H C cl fp))
    (eg : ∀ s H C cl fp, gF s H C cl fp = g) (et : ∀ s H C cl fp, tF s H C cl fp = tt) (ee : ∀ s H C cl fp, eF s H C cl fp = te) (hs : ∀ x, foldedSetIterable iter X.env x = pure x := by intro _; rfl) :
    PE X (.ListComp elt [⟨tg, iter, ifs, 0⟩] scope pos) (tLc wi g tt te (own.map (·.2))) :=
  pe_lc hc hN hi ok (fun s H C cl fp => eg s H C cl fp ▸ hg s H C cl fp) (fun s H C cl fp => et s H C cl fp ▸ ht s H C cl fp) (fun s H C cl fp => ee s H C cl fp ▸ he s H C cl fp) hs
theorem ps_setLcF {X : Cx} {i : Nat} {y : Str} {py spos : Pos} {elt tg iter : Expr} {ifs : List Expr} {scope : Scope} {own : List (Str × Nat)} {pos : Pos} {wi : TI} {g : TG} {tt : TT} {te : TE}
    {gF : Shared → Hp → Addr → List (Str × Addr) → List Addr → TG} {tF : Shared → Hp → Addr → List (Str × Addr) → List Addr → TT} {eF : Shared → Hp → Addr → List (Str × Addr) → List Addr → TE}
    (hc : X.calm = true) (hN : X.N.Nodup) (hy : X.N[i]? = some y) (hyl : X.env.scope.names.lookup y = some .local) (hsw : swapsWith (.ListComp elt [⟨tg, iter, ifs, 0⟩] scope pos) (some (.Name y py)) spos.line X.env = pure true)
    (hi : PI X tg iter wi) (ok : BlkOk X.N X.env.scope scope own)
    (hg : ∀ s H C cl fp, PG (X.blk s H scope (compEnvC scope cl C X.env) fp) tg (gF s H C cl fp)) (ht : ∀ s H C cl fp, PTs (X.blk s H scope (compEnvC scope cl C X.env) fp) ifs (tF s H C cl fp))
    (he : ∀ s H C cl fp, PE (X.blk s H scope (compEnvC scope cl C X.env) fp) elt (eF s H C cl fp))
    (eg : ∀ s H C cl fp, gF s H C cl fp = g) (et : ∀ s H C cl fp, tF s H C cl fp = tt) (ee : ∀ s H C cl fp, eF s H C cl fp = te) (hs : ∀ x, foldedSetIterable iter X.env x = pure x := by intro _; rfl) :
    PS X (.Assign [.Name y py] (.ListComp elt [⟨tg, iter, ifs, 0⟩] scope pos) spos) (tAsg (tLc wi g tt te (own.map (·.2))) (gName i)) :=
  ps_setLc hc hN hy hyl hsw hi ok (fun s H C cl fp => eg s H C cl fp ▸ hg s H C cl fp) (fun s H C cl fp => et s H C cl fp ▸ ht s H C cl fp) (fun s H C cl fp => ee s H C cl fp ▸ he s H C cl fp) hs
end Kw


set_option Elab.async false
set_option linter.all false
set_option maxRecDepth 100000
set_option maxHeartbeats 4000000
/-! Kw7: slices; sizes of texts. -/
namespace Kw
open PySem PySem.Spec PyProof.Rows L2 Evl
theorem cutV_to (xs : List V) (n : Nat) : cutV xs none (some (n : Int)) = xs.take n := by
  unfold cutV
  rw [HT.sIx_none, HT.sIx_nat, List.drop_zero, Nat.sub_zero]
  by_cases h : n ≤ xs.length
  · rw [Nat.min_eq_left h]
  · rw [Nat.min_eq_right (by omega), List.take_of_length_le (Nat.le_refl _), List.take_of_length_le (by omega)]
theorem cutV_from (xs : List V) (n : Nat) : cutV xs (some (n : Int)) none = xs.drop n := by
  unfold cutV
  rw [HT.sIx_none, HT.sIx_nat]
  by_cases h : n ≤ xs.length
  · rw [Nat.min_eq_left h, List.take_of_length_le (by rw [List.length_drop]; exact Nat.le_refl _)]
  · rw [Nat.min_eq_right (by omega), List.drop_of_length_le (Nat.le_refl _), List.drop_of_length_le (by omega)]; simp
theorem len_tl' (z : Str) : z.length = (TL.tl z).length := TL.len_tl z
theorem cutS_to (z : Str) (n : Nat) : TL.tl (cutS z none (some (n : Int))) = (TL.tl z).take n := by
  unfold cutS
  show ((TL.tl z).drop _).take _ = _
  rw [HT.sIx_none, HT.sIx_nat, List.drop_zero, Nat.sub_zero, len_tl']
  by_cases h : n ≤ (TL.tl z).length
  · rw [Nat.min_eq_left h]
  · rw [Nat.min_eq_right (by omega), List.take_of_length_le (Nat.le_refl _), List.take_of_length_le (by omega)]
theorem cutS_from (z : Str) (n : Nat) : TL.tl (cutS z (some (n : Int)) none) = (TL.tl z).drop n := by
  unfold cutS
  show ((TL.tl z).drop _).take _ = _
  rw [HT.sIx_none, HT.sIx_nat, len_tl']
  by_cases h : n ≤ (TL.tl z).length
  · rw [Nat.min_eq_left h, List.take_of_length_le (by rw [List.length_drop]; exact Nat.le_refl _)]
  · rw [Nat.min_eq_right (by omega), List.drop_of_length_le (Nat.le_refl _), List.drop_of_length_le (by omega)]; simp
theorem cutS_mid (z : Str) (m n : Nat) (h : n ≤ (TL.tl z).length) : TL.tl (cutS z (some (m : Int)) (some (n : Int))) = ((TL.tl z).take n).drop m := by
  unfold cutS
  show ((TL.tl z).drop _).take _ = _
  rw [HT.sIx_nat, HT.sIx_nat, len_tl', Nat.min_eq_left h, List.drop_take]
  by_cases h1 : m ≤ (TL.tl z).length
  · rw [Nat.min_eq_left h1]
  · rw [Nat.min_eq_right (by omega), List.drop_of_length_le (Nat.le_refl _), List.drop_of_length_le (by omega)]; simp
section
variable {K : PySem.W.Frag} {σ : L2.St} {H : Hp} {te : TE} {tl th : TO}
theorem en_slL {p : Addr} {xs : List V} {lo hi : Option Int} (h : Ev te σ H (.ref p)) (h1 : EvO tl σ H lo) (h2 : EvO th σ H hi) (hs : SqL K H p xs) : EvN (tSl (rSlL K) te tl th) σ H (.lst (cutV xs lo hi)) := el_sl h h1 h2 hs
theorem en_slN {xs : List V} {lo hi : Option Int} (h : EvN te σ H (.lst xs)) (h1 : EvO tl σ H lo) (h2 : EvO th σ H hi) : EvN (tSl (rSlL K) te tl th) σ H (.lst (cutV xs lo hi)) := fun H1 e Q q =>
  h H1 e _ fun p H2 hn e2 hp => h1 H2 (e.trans e2) _ fun H3 e3 => h2 H3 ((e.trans e2).trans e3) _ fun H4 e4 =>
    ⟨p, xs, rfl, ex_l (e3.trans e4) (sq_of hp), fun l hl => q l _ (fresh_back ((e2.trans e3).trans e4) hl) (((e2.trans e3).trans e4).trans (Ex.new hl)) upd_same⟩
end
/-- a list of texts none of which is longer than b -/
theorem sum_le (b : Nat) : ∀ ys : List Str, (∀ y ∈ ys, y.length ≤ b) → (ys.map (·.length)).sum ≤ ys.length * b
  | [], _ => by simp
  | y :: r, h => by
    have h1 := h y (List.mem_cons_self ..)
    have h2 := sum_le b r fun z hz => h z (List.mem_cons_of_mem _ hz)
    simp only [List.map_cons, List.sum_cons, List.length_cons, Nat.succ_mul]
    omega
theorem join_size {a : Str} {ys : List Str} {b n : Nat} (ha : a.length ≤ 1) (h : ∀ y ∈ ys, y.length ≤ b) (hn : ys.length ≤ n) (hb : n * b + n ≤ 16777216) : (ys.map (·.length)).sum + ys.length * a.length ≤ 16777216 := by
  have h1 := sum_le b ys h
  have h2 : ys.length * b ≤ n * b := Nat.mul_le_mul_right b hn
  have h3 : ys.length * a.length ≤ n * 1 := Nat.mul_le_mul hn ha
  omega
section
variable {K : PySem.W.Frag} {σ : L2.St} {H : Hp} {te : TE} {D : Ends} {tz : TS} {x y z : V}
/-- a, b, c = a tuple; a, b = a tuple -/
theorem s_asgT3 {i j l : Nat} (h : EvX te σ H (fun v H' => ∃ p, v = .ref p ∧ SqT K H' p [x, y, z])) (k : ∀ H1, Ex H H1 → D.nx (((σ.set i (some x)).set j (some y)).set l (some z)) H1) : tAsg te (gTup K 3 (gCons (gName i) (gCons (gName j) (gCons (gName l) gNil)))) D σ H :=
  h.use fun v H1 e ⟨p, hv, hs⟩ => ⟨p, _, hv, hs, rfl, x, _, rfl, y, _, rfl, z, _, rfl, rfl, k H1 e⟩
theorem q_asgT3 {i j l : Nat} (h : EvX te σ H (fun v H' => ∃ p, v = .ref p ∧ SqT K H' p [x, y, z])) (k : ∀ H1, Ex H H1 → tz D (((σ.set i (some x)).set j (some y)).set l (some z)) H1) : tSeq (tAsg te (gTup K 3 (gCons (gName i) (gCons (gName j) (gCons (gName l) gNil))))) tz D σ H := s_asgT3 (D := { D with nx := tz D }) h k
theorem s_asgT2 {i j : Nat} (h : EvX te σ H (fun v H' => ∃ p, v = .ref p ∧ SqT K H' p [x, y])) (k : ∀ H1, Ex H H1 → D.nx ((σ.set i (some x)).set j (some y)) H1) : tAsg te (gTup K 2 (gCons (gName i) (gCons (gName j) gNil))) D σ H :=
  h.use fun v H1 e ⟨p, hv, hs⟩ => ⟨p, _, hv, hs, rfl, x, _, rfl, y, _, rfl, rfl, k H1 e⟩
/-- a loop's target a, b -/
theorem g_tup2 {i j : Nat} {p : Addr} {Q : L2.St → Hp → Prop} (hs : SqT K H p [x, y]) (q : Q ((σ.set i (some x)).set j (some y)) H) : gTup K 2 (gCons (gName i) (gCons (gName j) gNil)) (.ref p) σ H Q := ⟨p, _, rfl, hs, rfl, x, _, rfl, y, _, rfl, rfl, q⟩
theorem g_tup3 {i j l : Nat} {p : Addr} {Q : L2.St → Hp → Prop} (hs : SqT K H p [x, y, z]) (q : Q (((σ.set i (some x)).set j (some y)).set l (some z)) H) : gTup K 3 (gCons (gName i) (gCons (gName j) (gCons (gName l) gNil))) (.ref p) σ H Q := ⟨p, _, rfl, hs, rfl, x, _, rfl, y, _, rfl, z, _, rfl, rfl, q⟩
theorem ex_N {o : List V} (h : EvN te σ H (.tup o)) : EvX te σ H (fun v H' => ∃ p, v = .ref p ∧ SqT K H' p o) := fun H1 e Q q => h H1 e Q fun p H2 _ e2 hp => q _ H2 e2 ⟨p, rfl, st_of hp⟩
end
section
variable {K : PySem.W.Frag} {σ : L2.St} {H : Hp} {te ti to : TE} {x v : V} {D : Ends} {tz : TS}
theorem ev_ixN {xs : List V} {i : Int} (h : EvN te σ H (.tup xs)) (hi : Ev ti σ H (.int i)) (ha : atI xs i = some v) : Ev (tOp (rIxT K) te ti) σ H v := fun H1 e Q q =>
  h H1 e _ fun p H2 _ e2 hp => hi H2 (e.trans e2) _ fun H3 e3 => ⟨p, xs, i, v, rfl, rfl, ex_t e3 (st_of hp), ha, q H3 (e2.trans e3)⟩
/-- x.partition(y)[i] -/
theorem ev_ixP {a b : Str} {i : Int} (ho : Ev to σ H (.str a)) (h : Ev te σ H (.str b)) (hb : (b.length == 0) = false) (hz : a.length ≤ sizeLine) (hi : Ev ti σ H (.int i)) (ha : atI [.str (Txt.partition a b).1, .str (Txt.partition a b).2.1, .str (Txt.partition a b).2.2] i = some v) : Ev (tOp (rIxT K) (tM1 rPart to te) ti) σ H v := ev_ixN (en_part ho h hb hz) hi ha
/-- a method's call: a value | a new object -/
theorem ev_mt {C : Addr} {m : Str} {R : List V → Hp → V → Prop} {vs : List V} {E : XK} {ta : TA} {a dx : Addr} {fs : List (Str × V)} (mo : Mono R) (ho : Ev to σ H (.ref a)) (hi : H a = some (.ins C dx fs)) (hl : fs.lookup m = none) (h : EvA ta σ H vs) (r : R (.ref a :: (vs ++ [])) H v) : Ev (tMeth C m (spV R) [] E to ta) σ H v := fun H1 e Q q =>
  ho H1 e _ fun H2 e2 => ⟨a, dx, fs, rfl, e2 _ _ (e _ _ hi), hl, h H2 (e.trans e2) _ fun H3 e3 => ⟨v, mo _ _ _ _ ((e.trans e2).trans e3) r, fun H4 e4 => q H4 ((e2.trans e3).trans e4)⟩⟩
theorem en_mt {C : Addr} {m : Str} {R : List V → Hp → HO → Prop} {vs : List V} {E : XK} {ta : TA} {a dx : Addr} {fs : List (Str × V)} {o : HO} (mo : Mono R) (ho : Ev to σ H (.ref a)) (hi : H a = some (.ins C dx fs)) (hl : fs.lookup m = none) (h : EvA ta σ H vs) (r : R (.ref a :: (vs ++ [])) H o) : EvN (tMeth C m (spN R) [] E to ta) σ H o := fun H1 e Q q =>
  ho H1 e _ fun H2 e2 => ⟨a, dx, fs, rfl, e2 _ _ (e _ _ hi), hl, h H2 (e.trans e2) _ fun H3 e3 => ⟨o, mo _ _ _ _ ((e.trans e2).trans e3) r, fun p H4 hp e4 h4 => q p H4 (fresh_back (e2.trans e3) hp) ((e2.trans e3).trans e4) h4⟩⟩
theorem rv_isN : RV (fun x y H Q => y = .non ∧ Q (.bl (decide (x = .non))) H) x .non H (.bl (decide (x = .non))) := rv_val fun _ _ _ q => ⟨rfl, q⟩
theorem rv_notN : RV (fun x y H Q => y = .non ∧ Q (.bl (!decide (x = .non))) H) x .non H (.bl (!decide (x = .non))) := rv_val fun _ _ _ q => ⟨rfl, q⟩
theorem s_while' {t : TT} {tu : TS} (W : Nat → L2.St → Hp → Prop) (m0 : Nat) (h0 : W m0 σ H)
    (hs : ∀ m σ' H', W m σ' H' → ∃ b, EvT t σ' H' b ∧ (b = true → ∀ H1, Ex H' H1 → tu { D with nx := fun σ2 H2 => ∃ m', m' < m ∧ W m' σ2 H2, ct := fun σ2 H2 => ∃ m', m' < m ∧ W m' σ2 H2, bk := tz D } σ' H1) ∧ (b = false → ∀ H1, Ex H' H1 → tz D σ' H1)) : tSeq (tWhile t tu) tz D σ H :=
  q_while W m0 h0 fun m σ' H' w => by
    obtain ⟨b, hb, h1, h2⟩ := hs m σ' H' w
    exact ⟨b, hb, fun z H1 e => ⟨_, fun σ2 H2 q => q, h1 z H1 e⟩, h2⟩
end
/-- all but d stays -/
def Exb (d : Addr) (H H' : Hp) : Prop := ∀ a o, a ≠ d → H a = some o → H' a = some o
theorem exb_of {d : Addr} {H H' : Hp} (e : Ex H H') : Exb d H H' := fun a o _ h => e a o h
theorem Exb.refl (d : Addr) (H : Hp) : Exb d H H := fun _ _ _ h => h
theorem Exb.trans {d : Addr} {H H1 H2 : Hp} (a : Exb d H H1) (b : Exb d H1 H2) : Exb d H H2 := fun x o n h => b x o n (a x o n h)
theorem exb_upd {d : Addr} {H H1 : Hp} {o : HO} (e : Exb d H H1) : Exb d H (upd H1 d o) := fun a u n h => by rw [upd_ne n]; exact e a u n h
theorem exb_ex {d : Addr} {H H' : Hp} (hd : H d = none) (e : Exb d H H') : Ex H H' := fun a o h => e a o (fun z => by rw [z, hd] at h; cases h) h
section
variable {K : PySem.W.Frag} {σ : L2.St} {H : Hp} {ta tv td ty : TE} {x v : V} {D : Ends} {tz : TS}
/-- o.f = e -/
theorem s_fldN {a C dx : Addr} {fs : List (Str × V)} {f : Str} {o : HO} (h : EvN tv σ H o) (ho : Ev ta σ H (.ref a)) (hi : H a = some (.ins C dx fs)) (hc : Cls K C) (hn : NoAttr K C f) (hz : fs.length < 1000)
    (k : ∀ p H1, H p = none → Ex H H1 → H1 p = some o → D.nx σ (upd H1 a (.ins C dx (putF f (.ref p) fs)))) : sFld K ta tv f D σ H :=
  h H (Ex.refl H) _ fun p H1 hp e1 h1 => ho H1 e1 _ fun H2 e2 => ⟨a, C, dx, fs, rfl, e2 _ _ (e1 _ _ hi), hc, hn, hz, k p H2 hp (e1.trans e2) (e2 _ _ h1)⟩
theorem s_fld {a C dx : Addr} {fs : List (Str × V)} {f : Str} (h : Ev tv σ H v) (ho : Ev ta σ H (.ref a)) (hi : H a = some (.ins C dx fs)) (hc : Cls K C) (hn : NoAttr K C f) (hz : fs.length < 1000)
    (k : ∀ H1, Ex H H1 → D.nx σ (upd H1 a (.ins C dx (putF f v fs)))) : sFld K ta tv f D σ H :=
  h H (Ex.refl H) _ fun H1 e1 => ho H1 e1 _ fun H2 e2 => ⟨a, C, dx, fs, rfl, e2 _ _ (e1 _ _ hi), hc, hn, hz, k H2 (e1.trans e2)⟩
/-- del d[k] -/
theorem s_ddel {d : Addr} {kvs : List (Key × V)} {k : Key} (hd : Ev td σ H (.ref d)) (hk : Ev ty σ H (kV k)) (ho : H d = some (.dK kvs)) (hv : (valV kvs k).isSome = true) (q : ∀ H1, Ex H H1 → D.nx σ (upd H1 d (.dK (dropK kvs k)))) : sDDel td ty D σ H :=
  hd H (Ex.refl H) _ fun H1 e1 => hk H1 e1 _ fun H2 e2 => ⟨d, kvs, k, rfl, e2 _ _ (e1 _ _ ho), rfl, hv, q H2 (e1.trans e2)⟩
end
theorem nd_sub_len {α : Type} [DecidableEq α] : ∀ {xs ys : List α}, xs.Nodup → (∀ x ∈ xs, x ∈ ys) → xs.length ≤ ys.length
  | [], _, _, _ => Nat.zero_le _
  | x :: xs, ys, n, h => by
    have n' := List.nodup_cons.mp n
    have hx := h x (List.mem_cons_self ..)
    have z := nd_sub_len (ys := ys.erase x) n'.2 fun y hy => (List.mem_erase_of_ne (fun e => n'.1 (by rw [← e]; exact hy))).mpr (h y (List.mem_cons_of_mem _ hy))
    rw [List.length_erase_of_mem hx] at z
    have p : 0 < ys.length := List.length_pos_of_mem hx
    show xs.length + 1 ≤ ys.length
    omega
section
variable {K : PySem.W.Frag} {σ : L2.St} {H : Hp} {ta tb tc : TE} {x v z : V} {D : Ends} {tz : TS}
/-- a, b, c = something new, something new, e -/
theorem q_par3 {i j l : Nat} {o1 o2 : HO} (h1 : EvN ta σ H o1) (h2 : EvN tb σ H o2) (h3 : Ev tc σ H z) (k : ∀ p q H1, H p = none → H q = none → p ≠ q → Ex H H1 → H1 p = some o1 → H1 q = some o2 → tz D (((σ.set i (some (.ref p))).set j (some (.ref q))).set l (some z)) H1) :
    tSeq (tPar3 i j l (tCons ta (tCons tb (tCons tc tNil)))) tz D σ H :=
  h1 H (Ex.refl H) _ fun p H1 hp e1 g1 => h2 H1 e1 _ fun q H2 hq e2 g2 => h3 H2 (e1.trans e2) _ fun H3 e3 => ⟨_, _, _, rfl, k p q H3 hp (fresh_back e1 hq) (fun e => by rw [← e, g1] at hq; cases hq) ((e1.trans e2).trans e3) (e3 _ _ (e2 _ _ g1)) (e3 _ _ g2)⟩
/-- a, b = something new, e -/
theorem q_parN {i j : Nat} {o : HO} (h1 : EvN ta σ H o) (h2 : Ev tb σ H z) (k : ∀ p H1, H p = none → Ex H H1 → H1 p = some o → tz D ((σ.set i (some (.ref p))).set j (some z)) H1) : tSeq (tPar i j (tCons ta (tCons tb tNil))) tz D σ H :=
  h1 H (Ex.refl H) _ fun p H1 hp e1 g1 => h2 H1 e1 _ fun H2 e2 => ⟨_, _, rfl, k p H2 hp (e1.trans e2) (e2 _ _ g1)⟩
theorem en_lst0 : EvN (tLst tNil) σ H (.lst []) := fun H1 _ Q q => ⟨by show 0 ≤ sizeLine; decide, fun p hp => q p _ hp (Ex.new hp) upd_same⟩
theorem en_lst {ta : TA} {ws : List V} (h : EvA ta σ H ws) (hl : ws.length ≤ 100000) : EvN (tLst ta) σ H (.lst ws) := el_lst h hl
theorem en_tup {ta : TA} {ws : List V} (h : EvA ta σ H ws) (hl : ws.length ≤ 100000) : EvN (tTup ta) σ H (.tup ws) := eu_tup h hl
theorem rv_ixS' {w : Str} {i : Nat} {c : Nat} (h : w.length ≤ 100000) (ha : (TL.tl w)[i]? = some c) : RV rIxS (.str w) (.int (i : Int)) H (.str ⟨#[c]⟩) := rv_ixS h (atI_nat ha)
end
section
variable {K : PySem.W.Frag} {σ : L2.St} {H : Hp} {ta tb te tl : TE} {t tt : TT} {x v z : V} {D : Ends} {tz : TS} {g : TG}
theorem en_if {b : Bool} {o : HO} (h : EvT t σ H b) (h1 : b = true → EvN ta σ H o) (h2 : b = false → EvN tb σ H o) : EvN (tIf t ta tb) σ H o := fun G e Q q => h G e _ fun G1 e1 => by
  cases b with
  | true => exact h1 rfl G1 (e.trans e1) Q fun p G2 hp e2 => q p G2 (fresh_back e1 hp) (e1.trans e2)
  | false => exact h2 rfl G1 (e.trans e1) Q fun p G2 hp e2 => q p G2 (fresh_back e1 hp) (e1.trans e2)
/-- xs.append(something) -/
theorem s_appX {l : Addr} {xs : List V} {R : V → Hp → Prop} (hl : H l = some (.lst xs)) (ha : Ev ta σ H (.ref l)) (h : EvX te σ H R) (hz : xs.length < 100000) (k : ∀ v H1, Ex H H1 → R v H1 → D.nx σ (upd H1 l (.lst (xs ++ [v])))) :
    tDrop (tBM K "list" rAppend ta (tCons te tNil)) D σ H :=
  ha H (Ex.refl H) _ fun H1 e1 => ⟨.inl ⟨rfl, xs, sq_of (e1 _ _ hl)⟩, h H1 e1 _ fun v H2 e2 r => ⟨l, xs, v, rfl, rfl, e2 _ _ (e1 _ _ hl), sz_lt hz, k v H2 (e1.trans e2) r⟩⟩
/-- a comprehension over a tuple whose elements change the heap -/
theorem lcT_raw {xs : List V} {vs : List Nat} {Q : VK} (h : EvX tl σ H (fun v H' => ∃ p, v = .ref p ∧ SqT K H' p xs))
    (body : ∀ p H1, Ex H H1 → SqT K H1 p xs → ∀ L, H1 L = none → ∃ Pv : Nat → Hp → Prop, Pv 0 (upd H1 L (.lst [])) ∧ (∀ i H', i ≤ xs.length → Pv i H' → SqT K H' p xs) ∧
      (∀ i x H', xs[i]? = some x → Pv i H' → g x (wipe σ vs) H' fun σ2 H2 => wipe σ2 vs = wipe σ vs ∧ tt σ2 H2 fun b H3 => if b = true then te σ2 H3 fun y H4 => ∃ acc, H4 L = some (.lst acc) ∧ acc.length < sizeLine ∧ Pv (i + 1) (upd H4 L (.lst (acc ++ [y]))) else Pv (i + 1) H3) ∧
      (∀ H', Pv xs.length H' → Q (.ref L) H')) : tLc (iTup K tl) g tt te vs σ H Q :=
  h.use fun v H1 e1 hv => by
    obtain ⟨p, rfl, hs⟩ := hv
    refine ⟨p, rfl, ⟨_, hs⟩, fun L hL => ?_⟩
    obtain ⟨Pv, h0, hl, hst, hd⟩ := body p H1 e1 hs L hL
    exact lc_tup Pv h0 hl hst hd
/-- a call that changes the heap: its arguments, then the promise -/
theorem cl_use {sp : Sp} {vs : List V} {E : XK} {ta : TA} {Q : VK} (h : EvA ta σ H vs) (q : ∀ H1, Ex H H1 → sp (vs ++ []) H1 Q E) : tCall sp [] E ta σ H Q := h H (Ex.refl H) _ fun H1 e => q H1 e
theorem mt_use {sp : Sp} {C : Addr} {m : Str} {vs : List V} {E : XK} {to : TE} {ta : TA} {Q : VK} {a dx : Addr} {fs : List (Str × V)} (ho : Ev to σ H (.ref a)) (hi : H a = some (.ins C dx fs)) (hl : fs.lookup m = none) (h : EvA ta σ H vs) (q : ∀ H1, Ex H H1 → sp (.ref a :: (vs ++ [])) H1 Q E) : tMeth C m sp [] E to ta σ H Q :=
  ho H (Ex.refl H) _ fun H1 e1 => ⟨a, dx, fs, rfl, e1 _ _ hi, hl, h H1 e1 _ fun H2 e2 => q H2 (e1.trans e2)⟩
end
theorem exb_t {K : PySem.W.Frag} {d p : Addr} {H H' : Hp} {kvs : List (Key × V)} {xs : List V} (e : Exb d H H') (hd : Rd H d (.dK kvs)) (h : SqT K H p xs) : SqT K H' p xs := by
  rcases h with h | h
  · have ne : p ≠ d := fun z => by
      subst z
      rcases h with h | ⟨o, h⟩ <;> rcases hd with g | ⟨o2, g⟩ <;> rw [h] at g <;> cases g
    rcases h with h | ⟨o, h⟩
    · exact .inl (.inl (e _ _ ne h))
    · exact .inl (.inr ⟨o, e _ _ ne h⟩)
  · exact .inr h
theorem exb_l {K : PySem.W.Frag} {d p : Addr} {H H' : Hp} {kvs : List (Key × V)} {xs : List V} (e : Exb d H H') (hd : Rd H d (.dK kvs)) (h : SqL K H p xs) : SqL K H' p xs := by
  rcases h with h | h
  · have ne : p ≠ d := fun z => by
      subst z
      rcases h with h | ⟨o, h⟩ <;> rcases hd with g | ⟨o2, g⟩ <;> rw [h] at g <;> cases g
    rcases h with h | ⟨o, h⟩
    · exact .inl (.inl (e _ _ ne h))
    · exact .inl (.inr ⟨o, e _ _ ne h⟩)
  · exact .inr h
theorem exb_dk {d p : Addr} {H H' : Hp} {kvs : List (Key × V)} (e : Exb d H H') (ne : p ≠ d) (h : Rd H p (.dK kvs)) : Rd H' p (.dK kvs) := by
  rcases h with h | ⟨o, h⟩
  · exact .inl (e _ _ ne h)
  · exact .inr ⟨o, e _ _ ne h⟩
end Kw


set_option Elab.async false
set_option linter.all false
set_option maxRecDepth 100000
set_option maxHeartbeats 9000000
/-! KwD: dicts as lists of pairs, by their own keys and values. -/
namespace Kw
open PySem PySem.Spec PyProof.Rows L2 Evl
section
variable {α β : Type} [DecidableEq α]
def ks (t : List (α × β)) : List α := t.map Prod.fst
def lk (t : List (α × β)) (k : α) : Option β := (t.find? fun r => decide (r.1 = k)).map Prod.snd
def pu (t : List (α × β)) (k : α) (v : β) : List (α × β) := if k ∈ ks t then t.map (fun r => if r.1 = k then (r.1, v) else r) else t ++ [(k, v)]
def dl (t : List (α × β)) (k : α) : List (α × β) := t.filter fun r => decide (r.1 ≠ k)
def mrg (t more : List (α × β)) : List (α × β) := more.foldl (fun acc r => pu acc r.1 r.2) t
theorem lk_cons (r : α × β) (t : List (α × β)) (k : α) : lk (r :: t) k = if r.1 = k then some r.2 else lk t k := by
  unfold lk
  rw [List.find?_cons]
  by_cases h : r.1 = k
  · simp [h]
  · simp [h]
theorem lk_nil (k : α) : lk ([] : List (α × β)) k = none := rfl
theorem lk_none {t : List (α × β)} {k : α} : lk t k = none ↔ k ∉ ks t := by
  induction t with
  | nil => simp [lk, ks]
  | cons r t ih =>
    rw [lk_cons]
    by_cases h : r.1 = k
    · simp [h, ks]
    · rw [if_neg h, ih]
      simp [ks, Ne.symm h, eq_comm (a := k)]
theorem lk_isSome {t : List (α × β)} {k : α} : (lk t k).isSome = decide (k ∈ ks t) := by
  by_cases h : k ∈ ks t
  · rw [decide_eq_true h]
    cases e : lk t k with
    | none => exact absurd h (lk_none.mp e)
    | some v => rfl
  · rw [decide_eq_false h, lk_none.mpr h]; rfl
theorem lk_mem {t : List (α × β)} {k : α} {v : β} (h : lk t k = some v) : (k, v) ∈ t := by
  induction t with
  | nil => cases h
  | cons r t ih =>
    rw [lk_cons] at h
    by_cases e : r.1 = k
    · rw [if_pos e] at h
      cases h; subst e
      exact List.mem_cons_self ..
    · rw [if_neg e] at h
      exact List.mem_cons_of_mem _ (ih h)
theorem ks_mem {t : List (α × β)} {k : α} {v : β} (h : (k, v) ∈ t) : k ∈ ks t := List.mem_map.mpr ⟨_, h, rfl⟩
theorem mem_ks {t : List (α × β)} {k : α} (h : k ∈ ks t) : ∃ v, lk t k = some v := by
  cases e : lk t k with
  | none => exact absurd h (lk_none.mp e)
  | some v => exact ⟨v, rfl⟩
theorem lk_of {t : List (α × β)} {k : α} {v : β} (n : (ks t).Nodup) (h : (k, v) ∈ t) : lk t k = some v := by
  induction t with
  | nil => cases h
  | cons r t ih =>
    rw [lk_cons]
    have n' : r.1 ∉ ks t ∧ (ks t).Nodup := List.nodup_cons.mp n
    rcases List.mem_cons.mp h with h | h
    · rw [← h]; simp
    · by_cases e : r.1 = k
      · exact absurd (e ▸ ks_mem h) n'.1
      · rw [if_neg e]; exact ih n'.2 h
theorem lk_iff {t : List (α × β)} {k : α} {v : β} (n : (ks t).Nodup) : lk t k = some v ↔ (k, v) ∈ t := ⟨lk_mem, lk_of n⟩
theorem lk_append (t u : List (α × β)) (k : α) : lk (t ++ u) k = (lk t k).or (lk u k) := by
  induction t with
  | nil => simp [lk_nil]
  | cons r t ih =>
    rw [List.cons_append, lk_cons, lk_cons, ih]
    by_cases h : r.1 = k
    · simp [h]
    · simp [h]
theorem lk_repl (t : List (α × β)) (k j : α) (v : β) : lk (t.map fun r => if r.1 = k then (r.1, v) else r) j = (lk t j).map fun x => if j = k then v else x := by
  induction t with
  | nil => rfl
  | cons r t ih =>
    rw [List.map_cons, lk_cons, lk_cons, ih]
    by_cases h : r.1 = k
    · rw [if_pos h]
      by_cases h2 : r.1 = j
      · rw [if_pos h2, if_pos h2]; simp [← h2, h]
      · rw [if_neg h2, if_neg h2]
    · rw [if_neg h]
      by_cases h2 : r.1 = j
      · rw [if_pos h2, if_pos h2]; simp [← h2, h]
      · rw [if_neg h2, if_neg h2]
theorem lk_pu (t : List (α × β)) (k j : α) (v : β) : lk (pu t k v) j = if j = k then some v else lk t j := by
  unfold pu
  by_cases h : k ∈ ks t
  · rw [if_pos h, lk_repl]
    by_cases e : j = k
    · subst e
      obtain ⟨x, hx⟩ := mem_ks h
      rw [hx]; simp
    · rw [if_neg e]
      cases lk t j <;> simp [e]
  · rw [if_neg h, lk_append, lk_cons, lk_nil]
    by_cases e : j = k
    · subst e
      rw [lk_none.mpr h]; simp
    · rw [if_neg e, if_neg (Ne.symm e)]; simp
theorem ks_pu (t : List (α × β)) (k : α) (v : β) : ks (pu t k v) = if k ∈ ks t then ks t else ks t ++ [k] := by
  unfold pu
  by_cases h : k ∈ ks t
  · rw [if_pos h, if_pos h]
    unfold ks
    rw [List.map_map]
    refine List.map_congr_left fun r _ => ?_
    show (if r.1 = k then (r.1, v) else r).1 = r.1
    by_cases e : r.1 = k <;> simp [e]
  · rw [if_neg h, if_neg h]
    simp [ks]
theorem mem_ks_pu {t : List (α × β)} {k j : α} {v : β} : j ∈ ks (pu t k v) ↔ j = k ∨ j ∈ ks t := by
  rw [ks_pu]
  by_cases h : k ∈ ks t
  · rw [if_pos h]
    exact ⟨.inr, fun z => z.elim (fun e => e ▸ h) id⟩
  · rw [if_neg h]
    simp [or_comm]
theorem nd_pu {t : List (α × β)} {k : α} {v : β} (n : (ks t).Nodup) : (ks (pu t k v)).Nodup := by
  rw [ks_pu]
  by_cases h : k ∈ ks t
  · rw [if_pos h]; exact n
  · rw [if_neg h]
    rw [List.nodup_append]
    exact ⟨n, by simp, fun a ha b hb => by rw [List.mem_singleton.mp hb]; exact fun e => h (e ▸ ha)⟩
theorem len_pu (t : List (α × β)) (k : α) (v : β) : (pu t k v).length ≤ t.length + 1 := by
  unfold pu
  split
  · rw [List.length_map]; omega
  · simp
theorem pu_new {t : List (α × β)} {k : α} {v : β} (h : k ∉ ks t) : pu t k v = t ++ [(k, v)] := by unfold pu; rw [if_neg h]
theorem mrg_app : ∀ (more t : List (α × β)), (ks t ++ ks more).Nodup → mrg t more = t ++ more
  | [], t, _ => by simp [mrg]
  | r :: more, t, n => by
    show mrg (pu t r.1 r.2) more = _
    have h : r.1 ∉ ks t := fun h => by
      rw [List.nodup_append] at n
      exact n.2.2 _ h r.1 (by simp [ks]) rfl
    rw [pu_new h, mrg_app more]
    · simp
    · have e : ks (t ++ [(r.1, r.2)]) ++ ks more = ks t ++ ks (r :: more) := by simp [ks]
      rw [e]; exact n
theorem mrg_nd {more : List (α × β)} (n : (ks more).Nodup) : mrg [] more = more := by
  have z := mrg_app more [] (by simpa [ks] using n)
  simpa using z
theorem nd_mrg : ∀ (more t : List (α × β)), (ks t).Nodup → (ks (mrg t more)).Nodup
  | [], _, n => n
  | r :: more, t, n => nd_mrg more (pu t r.1 r.2) (nd_pu n)
theorem mem_mrg : ∀ (more t : List (α × β)) (j : α), j ∈ ks (mrg t more) ↔ j ∈ ks t ∨ j ∈ ks more
  | [], t, j => by simp [mrg, ks]
  | r :: more, t, j => by
    show j ∈ ks (mrg (pu t r.1 r.2) more) ↔ _
    rw [mem_mrg more, mem_ks_pu]
    simp only [ks, List.map_cons, List.mem_cons]
    constructor
    · rintro ((h | h) | h)
      · exact .inr (.inl h)
      · exact .inl h
      · exact .inr (.inr h)
    · rintro (h | h | h)
      · exact .inl (.inr h)
      · exact .inl (.inl h)
      · exact .inr h
/-- merged rows that all agree with f on their keys -/
theorem lk_mrg_const : ∀ (more t : List (α × β)) (f : α → β), (∀ r ∈ more, r.2 = f r.1) → (∀ r ∈ t, r.2 = f r.1) → ∀ r ∈ mrg t more, r.2 = f r.1
  | [], _, _, _, h => h
  | r :: more, t, f, hm, h => by
    refine lk_mrg_const more (pu t r.1 r.2) f (fun x hx => hm x (List.mem_cons_of_mem _ hx)) fun x hx => ?_
    unfold pu at hx
    split at hx
    · obtain ⟨y, hy, rfl⟩ := List.mem_map.mp hx
      by_cases e : y.1 = r.1
      · simp only [e, if_true]; exact hm r (List.mem_cons_self ..)
      · simp only [e, if_false]; exact h y hy
    · rcases List.mem_append.mp hx with hx | hx
      · exact h x hx
      · rw [List.mem_singleton.mp hx]; exact hm r (List.mem_cons_self ..)
theorem mrg_snoc (t more : List (α × β)) (r : α × β) : mrg t (more ++ [r]) = pu (mrg t more) r.1 r.2 := by unfold mrg; rw [List.foldl_append]; rfl
theorem mrg_append (t a b : List (α × β)) : mrg t (a ++ b) = mrg (mrg t a) b := by unfold mrg; rw [List.foldl_append]
theorem len_mrg : ∀ (more t : List (α × β)), (mrg t more).length ≤ t.length + more.length
  | [], t => by simp [mrg]
  | r :: more, t => by
    have h1 := len_mrg more (pu t r.1 r.2)
    have h2 := len_pu t r.1 r.2
    show (mrg (pu t r.1 r.2) more).length ≤ _
    simp only [List.length_cons]
    omega
theorem take_map_succ {γ : Type} {xs : List γ} {i : Nat} {x : γ} (f : γ → α × β) (h : xs[i]? = some x) : (xs.take (i + 1)).map f = (xs.take i).map f ++ [f x] := by
  obtain ⟨hi, rfl⟩ := List.getElem?_eq_some_iff.mp h
  rw [List.take_succ_eq_append_getElem hi, List.map_append]; rfl
theorem ks_at {t : List (α × β)} {i : Nat} {r : α × β} (h : t[i]? = some r) : (ks t)[i]? = some r.1 := by unfold ks; rw [List.getElem?_map, h]; rfl
theorem ks_dl (t : List (α × β)) (k : α) : ks (dl t k) = (ks t).filter fun j => decide (j ≠ k) := by
  unfold ks dl
  rw [List.filter_map]; rfl
theorem lk_dl (t : List (α × β)) (k j : α) : lk (dl t k) j = if j = k then none else lk t j := by
  induction t with
  | nil => simp [dl, lk]
  | cons r t ih =>
    unfold dl at *
    rw [List.filter_cons, lk_cons]
    by_cases h : r.1 = k
    · simp only [h, ne_eq, not_true_eq_false, decide_false, Bool.false_eq_true, if_false]
      rw [ih]
      by_cases e : j = k
      · simp [e]
      · simp [e, Ne.symm e]
    · simp only [h, ne_eq, not_false_eq_true, decide_true, if_true]
      rw [lk_cons, ih]
      by_cases e : r.1 = j
      · subst e; simp [h]
      · simp [e]
theorem nd_dl {t : List (α × β)} {k : α} (n : (ks t).Nodup) : (ks (dl t k)).Nodup := by rw [ks_dl]; exact n.filter _
end
section
variable {α β : Type} [DecidableEq α]
/-- a dict's rows as the model holds them -/
def en (ka : α → Key) (vb : β → V) (t : List (α × β)) : List (Key × V) := t.map fun r => (ka r.1, vb r.2)
variable {ka : α → Key} {vb : β → V}
theorem en_keys (t : List (α × β)) : (en ka vb t).map (·.1) = (ks t).map ka := by simp [en, ks]
theorem en_at {t : List (α × β)} {i : Nat} {kk : Key} {vv : V} (h : (en ka vb t)[i]? = some (kk, vv)) : ∃ r, r ∈ t ∧ t[i]? = some r ∧ kk = ka r.1 ∧ vv = vb r.2 := by
  unfold en at h
  rw [List.getElem?_map] at h
  cases e : t[i]? with
  | none => rw [e] at h; cases h
  | some r => rw [e] at h; cases h; exact ⟨r, List.mem_of_getElem? e, rfl, rfl, rfl⟩
theorem en_len (t : List (α × β)) : (en ka vb t).length = t.length := by simp [en]
theorem en_look (hi : ∀ a b, ka a = ka b → a = b) (t : List (α × β)) (k : α) : valV (en ka vb t) (ka k) = (lk t k).map vb := by
  induction t with
  | nil => rfl
  | cons r t ih =>
    rw [lk_cons]
    by_cases h : r.1 = k
    · rw [if_pos h]
      exact valV_pos (p := (ka r.1, vb r.2)) (by rw [h])
    · rw [if_neg h, ← ih]
      exact valV_neg (p := (ka r.1, vb r.2)) (fun z => h (hi _ _ z))
theorem en_put (hi : ∀ a b, ka a = ka b → a = b) (t : List (α × β)) (k : α) (v : β) : putK (en ka vb t) (ka k) (vb v) = en ka vb (pu t k v) := by
  have e : ((en ka vb t).any fun kv => decide (kv.1 = ka k)) = true ↔ k ∈ ks t := by
    rw [List.any_eq_true]
    unfold en ks
    constructor
    · rintro ⟨x, hx, h⟩
      obtain ⟨r, hr, rfl⟩ := List.mem_map.mp hx
      exact List.mem_map.mpr ⟨r, hr, hi _ _ (of_decide_eq_true h)⟩
    · intro h
      obtain ⟨r, hr, rfl⟩ := List.mem_map.mp h
      exact ⟨_, List.mem_map.mpr ⟨r, hr, rfl⟩, decide_eq_true rfl⟩
  unfold putK pu
  by_cases h : k ∈ ks t
  · rw [if_pos h, if_pos (e.mpr h)]
    unfold en
    rw [List.map_map, List.map_map]
    refine List.map_congr_left fun r _ => ?_
    show (if ka r.1 = ka k then (ka r.1, vb v) else (ka r.1, vb r.2)) = (ka (if r.1 = k then (r.1, v) else r).1, vb (if r.1 = k then (r.1, v) else r).2)
    by_cases c : r.1 = k
    · rw [if_pos (by rw [c]), if_pos c]
    · rw [if_neg (fun z => c (hi _ _ z)), if_neg c]
  · rw [if_neg h, if_neg (fun z => h (e.mp z))]
    simp [en]
theorem en_drop (hi : ∀ a b, ka a = ka b → a = b) (t : List (α × β)) (k : α) : dropK (en ka vb t) (ka k) = en ka vb (dl t k) := by
  unfold dropK dl en
  rw [List.filter_map]
  congr 1
  refine List.filter_congr fun r _ => ?_
  show decide (ka r.1 ≠ ka k) = decide (r.1 ≠ k)
  by_cases c : r.1 = k
  · simp [c]
  · have c2 : ka r.1 ≠ ka k := fun z => c (hi _ _ z)
    have c3 : r.1 ≠ k := c
    rw [decide_eq_true c3, decide_eq_true c2]
theorem en_merge (hi : ∀ a b, ka a = ka b → a = b) : ∀ (more t : List (α × β)), mergeK (en ka vb t) (en ka vb more) = en ka vb (mrg t more)
  | [], t => rfl
  | r :: more, t => by
    show mergeK (putK (en ka vb t) (ka r.1) (vb r.2)) (en ka vb more) = en ka vb (mrg (pu t r.1 r.2) more)
    rw [en_put hi, en_merge hi more]
theorem en_merge0 (hi : ∀ a b, ka a = ka b → a = b) (more : List (α × β)) : mergeK [] (en ka vb more) = en ka vb (mrg [] more) := en_merge hi more []
end
/-- over a dict's keys: the elements are told on the heap with the lock -/
theorem lc_D {α β : Type} [DecidableEq α] {ka : α → Key} {vb : β → V} {σ : L2.St} {H : Hp} {tt : TT} {te td : TE} {ws : List Nat} {j : Nat} {X : Cx} (C : Addr → Prop) (t : List (α × β)) (b : α × β → Bool) (R : α × β → V → Hp → Prop)
    (h : EvX td σ H (fun v H' => ∃ d, v = .ref d ∧ C d ∧ Rd H' d (.dK (en ka vb t)))) (hz : t.length ≤ 90000) (hw : ∀ x, wipe ((wipe σ ws).set j (some x)) ws = wipe σ ws) (m : ∀ a v H H', Vt H H' → R a v H → R a v H')
    (body : ∀ d H1 B od, C d → Ex H H1 → LkB H1 B d od (en ka vb t) → ∀ r, r ∈ t → EvT tt ((wipe σ ws).set j (some (kV (ka r.1)))) B (b r) ∧ (b r = true → EvX te ((wipe σ ws).set j (some (kV (ka r.1)))) B (R r))) :
    EvP (fun σ H Q => tLc (iKeys (lkA (NF X) td)) (gName j) tt te ws σ H fun v H' => unP (NF X) (Q v) H') σ H (Lc t b R) := fun H0 e Q q =>
  lc_keys (C := C) (te := td) (kvs := en ka vb t) (Q := Q) (fun Q' q' => h H0 e _ fun v H1 e1 hv => by obtain ⟨d, rfl, hc, hd⟩ := hv; exact q' d H1 hc e1 hd) fun d H1 B od hc e1 l L hL => by
    refine ⟨fun i H' => Cv B t b R L i H', cv_0 hL, fun i H' p => p.2.1 d _ l.there, fun i k v H' hi p => ?_, fun H' p Hf h1 h2 => ?_⟩
    · obtain ⟨r, hr, hi2, rfl, rfl⟩ := en_at hi
      have hb := body d H1 B od hc (e.trans e1) l r hr
      exact ⟨hw _, cv_turn m hz p hi2 hb.1 hb.2⟩
    · rw [en_len] at p
      obtain ⟨p1, p2, acc, p3, p4⟩ := cv_done p
      have hd : H' d = some (.frz od (.dK (en ka vb t))) := p2 d _ l.there
      have ne : L ≠ d := fun z => by rw [z, hd] at p3; cases p3
      have vm : Vt H' Hf := vt_of (vm_un hd l.rd h1 h2)
      exact q L Hf (fresh_back e1 (l.no' p1)) (e1.trans (l.back p2 h1 h2)) ⟨acc, by rw [h1 L ne]; exact p3, gv_mono (fun a v _ r => m a v _ _ vm r) p4⟩
theorem inr_inj' : ∀ a b : Str, (Sum.inr a : Key) = Sum.inr b → a = b := fun _ _ h => by cases h; rfl
theorem inl_inj' : ∀ a b : Int, (Sum.inl a : Key) = Sum.inl b → a = b := fun _ _ h => by cases h; rfl
/-- texts by texts; any thing by texts, by ints -/
abbrev tD (t : List (Str × Str)) : List (Key × V) := en Sum.inr V.str t
/-! ### sorting -/
theorem leS_trans (a b c : Str) (h1 : leS a b = true) (h2 : leS b c = true) : leS a c = true := by
  unfold leS at *
  rw [decide_eq_true_eq] at *
  exact List.le_trans h1 h2
theorem leS_total (a b : Str) : (leS a b || leS b a) = true := by
  unfold leS
  rw [Bool.or_eq_true, decide_eq_true_eq, decide_eq_true_eq]
  exact List.le_total ..
theorem leS_anti (a b : Str) (h1 : leS a b = true) (h2 : leS b a = true) : a = b := by
  unfold leS at *
  rw [decide_eq_true_eq] at *
  have e : a.cps.toList = b.cps.toList := List.le_antisymm h1 h2
  exact TL.ext_tl e
theorem sortS_perm (l : List Str) : (sortS l).Perm l := List.mergeSort_perm ..
theorem sortI_perm (l : List Int) : (sortI l).Perm l := List.mergeSort_perm ..
theorem sortS_sorted (l : List Str) : (sortS l).Pairwise fun a b => leS a b = true := List.pairwise_mergeSort leS_trans leS_total l
theorem sortI_sorted (l : List Int) : (sortI l).Pairwise fun a b => a ≤ b := by
  have z := List.pairwise_mergeSort (le := fun a b : Int => decide (a ≤ b)) (fun a b c h1 h2 => by rw [decide_eq_true_eq] at *; omega) (fun a b => by rw [Bool.or_eq_true, decide_eq_true_eq, decide_eq_true_eq]; omega) l
  exact z.imp fun h => of_decide_eq_true h
theorem sortS_eq {l m : List Str} (h : l.Perm m) : sortS l = sortS m :=
  List.Perm.eq_of_pairwise (le := fun a b => leS a b = true) (fun a b _ _ h1 h2 => leS_anti a b h1 h2) (sortS_sorted l) (sortS_sorted m) ((sortS_perm l).trans (h.trans (sortS_perm m).symm))
theorem sortI_eq {l m : List Int} (h : l.Perm m) : sortI l = sortI m :=
  List.Perm.eq_of_pairwise (le := fun a b : Int => a ≤ b) (fun a b _ _ h1 h2 => by omega) (sortI_sorted l) (sortI_sorted m) ((sortI_perm l).trans (h.trans (sortI_perm m).symm))
theorem sortI_of_sorted {l : List Int} (h : l.Pairwise fun a b => a ≤ b) : sortI l = l :=
  List.Perm.eq_of_pairwise (le := fun a b : Int => a ≤ b) (fun a b _ _ h1 h2 => by omega) (sortI_sorted l) h (sortI_perm l)
theorem sortS_of_sorted {l : List Str} (h : l.Pairwise fun a b => leS a b = true) : sortS l = l :=
  List.Perm.eq_of_pairwise (le := fun a b => leS a b = true) (fun a b _ _ h1 h2 => leS_anti a b h1 h2) (sortS_sorted l) h (sortS_perm l)
theorem mem_sortS {l : List Str} {a : Str} : a ∈ sortS l ↔ a ∈ l := (sortS_perm l).mem_iff
theorem mem_sortI {l : List Int} {a : Int} : a ∈ sortI l ↔ a ∈ l := (sortI_perm l).mem_iff
theorem nd_sortS {l : List Str} (h : l.Nodup) : (sortS l).Nodup := (sortS_perm l).nodup_iff.mpr h
theorem nd_sortI {l : List Int} (h : l.Nodup) : (sortI l).Nodup := (sortI_perm l).nodup_iff.mpr h
end Kw


set_option Elab.async false
set_option linter.all false
set_option maxRecDepth 100000
set_option maxHeartbeats 4000000
/-! KwM: sum(map(ord, text)); three comparisons in a chain. -/
namespace Kw
open PySem PySem.Spec PyProof.Rows L2 Evl
/-- the figures of a text's signs, summed -/
def ordsum (cs : List Nat) : Int := (cs.map fun c : Nat => (c : Int)).sum
section
variable {prog : Program} {w : World} {A : Around} {E : Value → Shared → Prop} {s : Shared}
theorem mapF_ord : MpR.MapF prog w (.builtin "ord") (fun u => ∃ c k, u = .str ⟨#[c]⟩ k) (fun u v => ∃ c k t, u = .str ⟨#[c]⟩ k ∧ v = .int (c : Nat) t) := by
  intro B F Q s0 u hh hc hq
  obtain ⟨c, k, rfl⟩ := hc
  refine wpAny_with_toks (Nat.le_refl s0.toks) (ord_of_one rfl fun htk => hq _ _ ⟨c, k, _, rfl, rfl⟩ ⟨fun _ _ _ e => e, rfl, rfl, rfl, htk⟩)
def ordAt (x : Str) (i : Nat) : Int := ((x.cps[i]?.getD 0 : Nat) : Int)
theorem preSum_ord (x : Str) : ∀ n, n ≤ (TL.tl x).length → preSum (ordAt x) n = ordsum ((TL.tl x).take n)
  | 0, _ => rfl
  | n + 1, h => by
    show preSum (ordAt x) n + ordAt x n = _
    have hn : n < (TL.tl x).length := h
    rw [preSum_ord x n (Nat.le_of_lt hn), List.take_succ_eq_append_getElem hn]
    unfold ordsum ordAt
    rw [List.map_append, List.sum_append]
    have e : x.cps[n]? = some (TL.tl x)[n] := by
      have z : (TL.tl x)[n]? = some (TL.tl x)[n] := List.getElem?_eq_getElem hn
      rw [← z]; simp [TL.tl]
    rw [e]
    simp
/-- the sum of the mapped signs, whatever the iterator over the text is -/
theorem sum_map_src {x : Str} {src : Value} {T0 : String} {tk0 : Tok} {Q : Value → Shared → Prop} (hh : A.handled = none) (o : Obj)
    (ho : (s.heap.push o).IsStrIter s.heap.objs.size T0 x tk0 0)
    (hi : ∀ {B : Around} {F R}, R (.ref s.heap.objs.size) { s with heap := s.heap.push o } → wpAny (model prog w) B (pyIter src) R F s)
    (D : ∀ B : Around, B.handled = none → Draws prog w B s.heap.objs.size [s.heap.objs.size] x.cps.size (fun i v => ∃ c u, x.cps[i]? = some c ∧ v = .str ⟨#[c]⟩ u) (fun i h => h.IsStrIter s.heap.objs.size T0 x tk0 i))
    (hq : ∀ h' t' k, (∀ b o, s.heap.get? b = some o → h'.get? b = some o) → Q (.int (preSum (ordAt x) x.cps.size) t') { s with heap := h', toks := k }) :
    wpAny (model prog w) A (call (.type "map") [.builtin "ord", src]) (fun v s1 => wpAny (model prog w) A (call (.builtin "sum") [v]) Q E s1) E s := by
  refine MpR.call_map (hi fun h' hO hM hsz hk => ?_)
  have g1 : (s.heap.push o).objs.size = s.heap.objs.size + 1 := Heap.size_push ..
  have git : h'.IsStrIter s.heap.objs.size T0 x tk0 0 := by obtain ⟨o2, e2, r⟩ := ho; exact ⟨o2, hk _ _ e2, r⟩
  have n1 : (s.heap.push o).objs.size + 1 ≠ s.heap.objs.size := by rw [g1]; exact Nat.ne_of_gt (Nat.lt_succ_of_lt (Nat.lt_succ_self _))
  have n2 : (s.heap.push o).objs.size ≠ s.heap.objs.size := by rw [g1]; exact Nat.succ_ne_self _
  have W := MpR.walks_map (A := A.in1) hh (D A.in1.in1 hh) mapF_ord n1 n2 (by simp) fun i u hu => by obtain ⟨c, k, _, rfl⟩ := hu; exact ⟨c, k, rfl⟩
  refine call_sum_walkAnyS (MpR.mp_pyIter hM ⟨_, _, _, _, _, _, _, ordAt x, rfl, W, ⟨hM, hO, git⟩, fun b hb => ?_, fun i v hv => ?_, fun s' t' hm => ?_⟩)
  · rcases List.mem_cons.mp hb with rfl | hb
    · exact Heap.lt_size hM
    rcases List.mem_cons.mp hb with rfl | hb
    · exact Heap.lt_size hO
    · rw [List.mem_singleton.mp hb]
      obtain ⟨o2, e2, _⟩ := git
      exact Heap.lt_size e2
  · obtain ⟨u, ⟨c, k, hc, rfl⟩, c2, k2, t2, e2, rfl⟩ := hv
    have e3 : c = c2 := by cases e2; rfl
    exact ⟨t2, by unfold ordAt; rw [hc, e3]; rfl⟩
  · rw [Moved.eq_with hm]
    exact hq s'.heap t' s'.toks fun b o2 e => hm.heap b o2 (fun z => Nat.ne_of_lt (Heap.lt_size e) (List.mem_singleton.mp z)) (hk b o2 (Heap.get?_push_of_some _ e))
end
section
variable {X : Cx} {σ : L2.St} {H : Hp} {te ta tb tc td : TE} {u v w z : V} {a b c d e : Expr} {pos p p0 p1 p2 : Pos}
/-- sum(map(ord, e)), e a text -/
def tSumOrd (te : TE) : TE := fun σ H Q => te σ H fun v H1 => ∃ x : Str, v = .str x ∧ Q (.int (ordsum (TL.tl x))) H1
theorem b_summapord (B : Blt X.mg) (he : PE X e te) (hc : X.calm = true := by rfl) (hgs : Gl X "sum" := by rfl) (hg : Gl X "map" := by rfl) (hgo : Gl X "ord" := by rfl)
    (hs1 : starEach [.Call (.Name "map" p) [.Name "ord" p1, e] [] p2] X.env = (false, eval (.Call (.Name "map" p) [.Name "ord" p1, e] [] p2) X.env) :: starEach [] X.env := by rfl)
    (hs : starEach [.Name "ord" p1, e] X.env = (false, eval (.Name "ord" p1) X.env) :: starEach [e] X.env := by rfl) (hpl : (backTo p2 (starEach [e] X.env)).any (·.1) = false := by rfl) (hs3 : starEach [e] X.env = (false, eval e X.env) :: starEach [] X.env := by rfl) :
    PE X (.Call (.Name "sum" p0) [.Call (.Name "map" p) [.Name "ord" p1, e] [] p2] [] pos) (tSumOrd te) := by
  refine ⟨fun pins s σ H Q I h => ?_⟩
  refine wpAny_Call_Name_kw (ld_blt I hgs B.sum boot_sum ?_)
  refine PyProof.Rows.callWith_builtin1 ?_ hs1 rfl
  rw [hs1]
  refine Calls.spliced_cons (wpAny_Call_Name_kw (ld_blt I hg B.map boot_map (PyProof.Rows.callWith_type1 ?_ hs hpl)))
  rw [hs]
  refine Calls.spliced_cons ((pf_bltn hgo B.ord (by decide +kernel : bootBuiltins "ord" = some (.builtin "ord"))).run pins s σ H _ I fun s2 I2 => ?_)
  rw [hs3]
  refine Calls.spliced_cons (thn (he.run pins s2 σ H _ I2 h) fun vv s3 ⟨y, H2, I3, r3, x, ex, q⟩ => ?_)
  subst ex
  obtain ⟨t, rfl⟩ := r3
  refine Calls.spliced_nil ?_
  have go : ∀ (h' : Heap) t' k, (∀ b o, s3.heap.get? b = some o → h'.get? b = some o) → EP X pins σ Q (.int (preSum (ordAt x) x.cps.size) t') { s3 with heap := h', toks := k } := fun h' t' k hk => by
    have e : x.cps.size = (TL.tl x).length := by simp [TL.tl]
    rw [e, preSum_ord x _ (Nat.le_refl _), List.take_length]
    exact ⟨.int _, H2, I3.kept (t' := k) hk, ⟨t', rfl⟩, q⟩
  cases ha : x.cps.all (· < 128) with
  | false => exact wpAny_mono (sum_map_src (I3.ok.hd hc) _ ⟨_, Heap.get?_push_size _ rfl, rfl, rfl⟩ (fun r => wpAny_pyIter_wide ha r) (fun B hB => Draws.strWide hB _ x t) go) (fun v s4 h4 => Calls.spliced_nil h4) fun _ _ z => z
  | true => exact wpAny_mono (sum_map_src (I3.ok.hd hc) _ ⟨_, Heap.get?_push_size _ rfl, rfl, rfl⟩ (fun r => wpAny_pyIter_ascii ha r) (fun B hB => Draws.strAscii hB _ x t) go) (fun v s4 h4 => Calls.spliced_nil h4) fun _ _ z => z
theorem ev_summapord {x : Str} (h : Ev te σ H (.str x)) : Ev (tSumOrd te) σ H (.int (ordsum (TL.tl x))) := fun H1 e Q q => h H1 e _ fun H2 e2 => ⟨x, rfl, q H2 e2⟩
/-- a < b <= c <= d -/
def tChain3 (r1 r2 r3 : R2) (ta tb tc td : TE) : TE := fun σ H Q => ta σ H fun x H1 => tb σ H1 fun y H2 => r1 x y H2 fun g H3 => ∃ k, g = .bl k ∧
  (if k = true then tc σ H3 fun z H4 => r2 y z H4 fun g2 H5 => ∃ k2, g2 = .bl k2 ∧ (if k2 = true then td σ H5 fun w H6 => r3 z w H6 Q else Q (.bl false) H5) else Q (.bl false) H3)
theorem ev_chain3 {r1 r2 r3 : R2} {x y z w : V} {b1 b2 b3 : Bool} (ha : Ev ta σ H x) (hb : Ev tb σ H y) (h1 : RV r1 x y H (.bl b1)) (hc : Ev tc σ H z) (h2 : RV r2 y z H (.bl b2)) (hd : Ev td σ H w) (h3 : RV r3 z w H (.bl b3)) : Ev (tChain3 r1 r2 r3 ta tb tc td) σ H (.bl (b1 && (b2 && b3))) := fun G0 e Q q =>
  ha G0 e _ fun G1 e1 => hb G1 (e.trans e1) _ fun G2 e2 => h1 G2 ((e.trans e1).trans e2) _ fun G3 e3 => ⟨b1, rfl, by
    have e03 := ((e.trans e1).trans e2).trans e3
    have f03 := (e1.trans e2).trans e3
    cases b1 with
    | false => exact q G3 f03
    | true =>
      show tc σ G3 _
      exact hc G3 e03 _ fun G4 e4 => h2 G4 (e03.trans e4) _ fun G5 e5 => ⟨b2, rfl, by
        cases b2 with
        | false => exact q G5 ((f03.trans e4).trans e5)
        | true =>
          show td σ G5 _
          exact hd G5 ((e03.trans e4).trans e5) _ fun G6 e6 => h3 G6 (((e03.trans e4).trans e5).trans e6) _ fun G7 e7 => q G7 ((((f03.trans e4).trans e5).trans e6).trans e7)⟩⟩
theorem pe_chain3 {o1 o2 o3 : CmpOp} {r1 r2 r3 : R2} (h1 : OpR X (compareOp o1) r1) (h2 : OpR X (compareOp o2) r2) (h3 : OpR X (compareOp o3) r3) (ha : PE X a ta) (hb : PE X b tb) (hc : PE X c tc) (hd : PE X d td)
    (hm : lastMarks [o1, o2, o3] [b, c, d] = false := by with_unfolding_all rfl) : PE X (.Compare a [o1, o2, o3] [b, c, d] pos) (tChain3 r1 r2 r3 ta tb tc td) := by
  refine ⟨fun pins s σ H Q I h => ?_⟩
  refine Compare_chain (thn (ha.run pins s σ H _ I h) fun v1 s1 ⟨x, H1, I1, y1, q1⟩ => chain_link (thn (hb.run pins s1 σ H1 _ I1 q1) fun v2 s2 ⟨y, H2, I2, y2, q2⟩ =>
    thn (h1 pins s2 σ H2 x y v1 v2 _ I2 y1 y2 q2) fun g s3 ⟨gg, H3, I3, y3, k, e, q3⟩ => ?_)) hm
  subst e
  cases y3
  refine wpAny_truthy_bool ?_
  cases k with
  | false => exact ite_ff ⟨.bl false, H3, I3, rfl, q3⟩
  | true =>
    refine ite_tt (chain_link (thn (hc.run pins s3 σ H3 _ I3 q3) fun v4 s4 ⟨z, H4, I4, y4, q4⟩ => thn (h2 pins s4 σ H4 y z v2 v4 _ I4 y2 y4 q4) fun g2 s5 ⟨gg2, H5, I5, y5, k2, e2, q5⟩ => ?_))
    subst e2
    cases y5
    refine wpAny_truthy_bool ?_
    cases k2 with
    | false => exact ite_ff ⟨.bl false, H5, I5, rfl, q5⟩
    | true => exact ite_tt (chain_last (thn (hd.run pins s5 σ H5 _ I5 q5) fun v6 s6 ⟨w, H6, I6, y6, q6⟩ => h3 pins s6 σ H6 z w v4 v6 Q I6 y4 y6 q6))
theorem pt_chain3 {o1 o2 o3 : CmpOp} {r1 r2 r3 : R2} (h1 : OpR X (compareOp o1) r1) (h2 : OpR X (compareOp o2) r2) (h3 : OpR X (compareOp o3) r3) (ha : PE X a ta) (hb : PE X b tb) (hc : PE X c tc) (hd : PE X d td)
    (hm : lastMarks [o1, o2, o3] [b, c, d] = false := by with_unfolding_all rfl) : PT X (.Compare a [o1, o2, o3] [b, c, d] pos) (tTest (tChain3 r1 r2 r3 ta tb tc td)) := by
  refine ⟨fun pins s σ H Q I h => ?_⟩
  refine isTrue_chain (thn (ha.run pins s σ H _ I h) fun v1 s1 ⟨x, H1, I1, y1, q1⟩ => test_link (thn (hb.run pins s1 σ H1 _ I1 q1) fun v2 s2 ⟨y, H2, I2, y2, q2⟩ =>
    thn (h1 pins s2 σ H2 x y v1 v2 _ I2 y1 y2 q2) fun g s3 ⟨gg, H3, I3, y3, k, e, q3⟩ => ?_)) hm
  subst e
  cases y3
  refine wpAny_truthy_bool ?_
  cases k with
  | false =>
    obtain ⟨k', e', q'⟩ := q3
    cases e'
    exact ite_ff ⟨H3, I3, q'⟩
  | true =>
    refine ite_tt (test_link (thn (hc.run pins s3 σ H3 _ I3 q3) fun v4 s4 ⟨z, H4, I4, y4, q4⟩ => thn (h2 pins s4 σ H4 y z v2 v4 _ I4 y2 y4 q4) fun g2 s5 ⟨gg2, H5, I5, y5, k2, e2, q5⟩ => ?_))
    subst e2
    cases y5
    refine wpAny_truthy_bool ?_
    cases k2 with
    | false =>
      obtain ⟨k', e', q'⟩ := q5
      cases e'
      exact ite_ff ⟨H5, I5, q'⟩
    | true =>
      refine ite_tt (test_last (thn (hd.run pins s5 σ H5 _ I5 q5) fun v6 s6 ⟨w, H6, I6, y6, q6⟩ => thn (h3 pins s6 σ H6 z w v4 v6 _ I6 y4 y6 q6) fun g3 s7 ⟨gg3, H7, I7, y7, k3, e3, q7⟩ => ?_))
      subst e3
      cases y7
      exact wpAny_truthy_bool ⟨H7, I7, q7⟩
end
end Kw


set_option Elab.async false
set_option linter.all false
set_option maxRecDepth 100000
set_option maxHeartbeats 4000000
/-! KwN: min of four ints: one of the four. -/
namespace Kw
open PySem PySem.Spec PyProof.Rows L2 Evl
section
variable {prog : Program} {w : World} {A : Around} {E : Value → Shared → Prop} {s : Shared}
theorem args_min4 (a b c d : Value) : argsOk "min" ⟨[a, b, c, d], []⟩ := by unfold argsOk; kernel_rfl
theorem min_four {a b c d : Int} {t1 t2 t3 t4 : Tok} {Q : Value → Shared → Prop} (hh : A.handled = none)
    (h : ∀ h' tk m k, m ∈ [a, b, c, d] → (∀ p o, s.heap.get? p = some o → h'.get? p = some o) → Q (.int m k) { s with heap := h', toks := tk }) :
    wpAny (model prog w) A (call (.builtin "min") [.int a t1, .int b t2, .int c t3, .int d t4]) Q E s := by
  have hn : (toString "min" ++ toString ".loop" : String) = "min.loop" := by decide
  let its : Array (Int × Tok) := #[(a, t1), (b, t2), (c, t3), (d, t4)]
  let o1 : Obj := { cls := .type "tuple", data := .seq #[.int a t1, .int b t2, .int c t3, .int d t4] }
  have hT : (s.heap.push o1).IsTuple s.heap.objs.size (intItems its) := ⟨_, Heap.get?_push_size _ rfl, rfl, 0, by simp [intItems, its, o1]⟩
  have hs1 : (s.heap.push o1).objs.size = s.heap.objs.size + 1 := Heap.size_push ..
  refine call_function_tree F.kind_min F.plain_min F.entry_min (args_min4 _ _ _ _) ?_
  refine wpAny_bind (wpAny_of_eq (show Builtin.Builtins.bindParams "min" ["key", "default"] 0 ⟨[], []⟩ = pure [none, none] from rfl) ?_)
  refine wpAny_bind (wpAny_newObj_type ?_)
  refine wpAny_bind (wpAny_mono (Q := fun it s₂ => ∃ I fp wr n P St bt, it = .ref I ∧ Walks prog w A.in1 I fp wr n P St ∧ St 0 s₂.heap ∧ (∀ b ∈ fp, b < s₂.heap.objs.size) ∧ 0 < n ∧ CmpOf prog w A.in1 .Lt P bt ∧
      ∀ v h' tk, P (argBest bt (n - 1)) v → (∀ b o, b ∉ wr → s₂.heap.get? b = some o → h'.get? b = some o) → Q v { s₂ with heap := h', toks := tk }) (wpAny_pyIter_tuple hT ?_) (fun it s₂ hq => ?_) fun _ _ e => e)
  · refine ⟨_, [_, s.heap.objs.size], [_], _, _, _, _, rfl, Walks.tuple (A := A.in1) hh _ s.heap.objs.size (by rw [hs1]; exact Nat.ne_of_lt (Nat.lt_succ_self _)) (intItems its),
      ⟨⟨_, Heap.get?_push_size _ rfl, rfl, rfl⟩, hT.push _⟩, fun p hp => ?_, by simp [intItems, its], CmpOf.ints_lt (numAt its) (fun _ _ => intItems_at), fun v h' tk hP hk => ?_⟩
    · show p < ((s.heap.push _).push _).objs.size
      rw [Heap.size_push, hs1]
      rcases List.mem_cons.mp hp with rfl | hp
      · rw [hs1]; exact Nat.lt_succ_self _
      · rw [List.mem_singleton.mp hp]
        exact Nat.lt_succ_of_lt (Nat.lt_succ_self _)
    · have old : ∀ p o, s.heap.get? p = some o → h'.get? p = some o := fun p o e => hk p o (fun z => by
        have g := Heap.lt_size e
        rw [List.mem_singleton.mp z, hs1] at g
        exact Nat.lt_irrefl _ (Nat.lt_of_succ_lt g)) (Heap.get?_push_of_some _ (Heap.get?_push_of_some _ e))
      have hP' : (intItems its)[argBest (fun i j => decide (numAt its i < numAt its j)) ((intItems its).size - 1)]? = some v := hP
      have hm : v ∈ (intItems its).toList := by
        obtain ⟨g1, g2⟩ := Array.getElem?_eq_some_iff.mp hP'
        rw [← g2]
        simp
      have hm2 : v = .int a t1 ∨ v = .int b t2 ∨ v = .int c t3 ∨ v = .int d t4 := by simpa [intItems, its] using hm
      rcases hm2 with rfl | rfl | rfl | rfl
      · exact h h' tk a t1 (by simp) old
      · exact h h' tk b t2 (by simp) old
      · exact h h' tk c t3 (by simp) old
      · exact h h' tk d t4 (by simp) old
  · obtain ⟨I, fp, wr, n, P, St, bt, rfl, W, hst, hfp, hn0, hcmp, hQ⟩ := hq
    refine wpAny_bind (wpAny_newObj_type ?_)
    have nf : s₂.heap.objs.size ∉ fp := fun z => Nat.lt_irrefl _ (hfp _ z)
    rw [hn]
    refine wpAny_pure ⟨plainId_quiet F.plain_min_loop _, codeAny_min_loop_first W bt hcmp s₂.heap.objs.size nf hn0 (W.frame _ _ _ hst fun b _ o e => Heap.get?_push_of_some _ e) (Heap.get?_push_size _ rfl) fun v h' tk hP hk => ?_⟩
    exact hQ v h' tk hP fun b o hb e => hk b o hb (Nat.ne_of_lt (Heap.lt_size e)) (Heap.get?_push_of_some _ e)
end
section
variable {X : Cx} {σ : L2.St} {H : Hp} {e e2 e3 e4 : Expr} {t : TA} {p pos : Pos}
def rMin4 : List V → Hp → VK → Prop := fun xs H Q => ∃ a b c d : Int, xs = [.int a, .int b, .int c, .int d] ∧ ∀ m, m ∈ [a, b, c, d] → Q (.int m) H
theorem call_min4 (hc : X.calm = true) : CallR X (.builtin "min") rMin4 := by
  intro pins s σ H xs us Q I r h
  obtain ⟨a, b, c, d, rfl, q⟩ := h
  cases r with | cons r1 r => cases r with | cons r2 r => cases r with | cons r3 r => cases r with | cons r4 r =>
  cases r
  obtain ⟨t1, rfl⟩ := r1
  obtain ⟨t2, rfl⟩ := r2
  obtain ⟨t3, rfl⟩ := r3
  obtain ⟨t4, rfl⟩ := r4
  exact min_four (I.ok.hd hc) fun h' tk m k hm kp => ⟨.int m, H, I.kept (t' := tk) kp, ⟨_, rfl⟩, q m hm⟩
theorem b_min4 (B : Blt X.mg) (ha : PA X [e, e2, e3, e4] t) (hc : X.calm = true := by rfl) (hg : Gl X "min" := by rfl) (he : SE X e [e2, e3, e4] := by rfl) (hp : SP0 X pos [e2, e3, e4] := by rfl) : PE X (.Call (.Name "min" p) [e, e2, e3, e4] [] pos) (tCB rMin4 t) :=
  pe_callB (call_min4 hc) hg B.min (by decide +kernel) ha (by decide) (by decide) he hp
end
end Kw


set_option Elab.async false
set_option linter.all false
set_option maxRecDepth 100000
set_option maxHeartbeats 4000000
/-! KwS: list comprehensions over a text. -/
namespace Kw
open PySem PySem.Spec PyProof.Rows L2 Evl
section
variable {σ : L2.St} {H : Hp} {tt : TT} {te tl : TE} {vs : List Nat} {j : Nat}
theorem lc_S {a : Str} (b : Nat → Bool) (R : Nat → V → Hp → Prop) (h : Ev tl σ H (.str a)) (hz : (TL.tl a).length ≤ 90000) (hw : ∀ x, wipe ((wipe σ vs).set j (some x)) vs = wipe σ vs) (m : ∀ a v H H', Vt H H' → R a v H → R a v H')
    (ht : ∀ c H1, c ∈ TL.tl a → Ex H H1 → EvT tt ((wipe σ vs).set j (some (.str ⟨#[c]⟩))) H1 (b c)) (he : ∀ c H1, c ∈ TL.tl a → b c = true → Ex H H1 → EvX te ((wipe σ vs).set j (some (.str ⟨#[c]⟩))) H1 (R c)) :
    EvP (tLc (iStr tl) (gName j) tt te vs) σ H (Lc (TL.tl a) b R) := fun H0 e Q q => h H0 e _ fun H1 e1 => ⟨a, rfl, fun L hL => by
  have es : a.cps.size = (TL.tl a).length := by simp [TL.tl]
  refine ⟨fun i m H' => m = (TL.tl a).length - i ∧ i ≤ (TL.tl a).length ∧ Cv H1 (TL.tl a) b R L i H', ⟨_, rfl, Nat.zero_le _, cv_0 hL⟩, ?_⟩
  rintro i m' H' ⟨rfl, hi, p⟩
  by_cases hlt : i < (TL.tl a).length
  · refine .inr ⟨by show i < a.cps.size; omega, Cv H1 (TL.tl a) b R L (i + 1), fun H2 p' => ⟨(TL.tl a).length - (i + 1), by omega, rfl, hlt, p'⟩, fun x H2 y => ?_⟩
    obtain ⟨rfl, c, hc, rfl⟩ := y
    have hci : (TL.tl a)[i]? = some c := by rw [← hc]; simp [TL.tl]
    have hcm := List.mem_of_getElem? hci
    exact ⟨hw _, cv_turn m hz p hci (ht c H1 hcm (e.trans e1)) fun hb => he c H1 hcm hb (e.trans e1)⟩
  · have e0 : i = (TL.tl a).length := by omega
    subst e0
    obtain ⟨p1, p2, p3⟩ := cv_done p
    exact .inl ⟨by show a.cps.size ≤ _; omega, q L H' (fresh_back e1 p1) (e1.trans p2) p3⟩⟩
end
end Kw


set_option Elab.async false
set_option linter.all false
set_option maxRecDepth 100000
set_option maxHeartbeats 4000000
/-! KwE: lists and tuples of data against each other, whatever their texts hold. -/
namespace Kw
open PySem PySem.Spec PyProof.Rows L2 Evl
section
variable {X : Cx}
def rEqP (K : PySem.W.Frag) : R2 := fun x y H Q => ∃ d e, Dp K H x d ∧ Dp K H y e ∧ d.plain = true ∧ e.plain = true ∧ d.depth ≤ 32 ∧ Q (.bl (PyData.eqv d e)) H
def rNeP (K : PySem.W.Frag) : R2 := fun x y H Q => ∃ d e, Dp K H x d ∧ Dp K H y e ∧ d.plain = true ∧ e.plain = true ∧ d.depth ≤ 32 ∧ Q (.bl (!PyData.eqv d e)) H
theorem op_eqP (hu : X.A.units + 64 < cLine) : OpR X (compareOp .Eq) (rEqP X.K) := by
  intro pins s σ H x y v u Q I rx ry ⟨d, e, hd, he, pd, pe, dp, q⟩
  obtain ⟨as, r1⟩ := Dp.reads I d x v hd rx
  obtain ⟨bs, r2⟩ := Dp.reads I e y u he ry
  exact SeqAt.eq_plain r1 r2 pd pe (by have := Nat.min_le_left d.depth e.depth; omega) ⟨.bl _, H, I, rfl, q⟩
theorem op_neP (hu : X.A.units + 64 < cLine) : OpR X (compareOp .NotEq) (rNeP X.K) := by
  intro pins s σ H x y v u Q I rx ry ⟨d, e, hd, he, pd, pe, dp, q⟩
  obtain ⟨as, r1⟩ := Dp.reads I d x v hd rx
  obtain ⟨bs, r2⟩ := Dp.reads I e y u he ry
  exact SeqAt.ne_plain r1 r2 pd pe (by have := Nat.min_le_left d.depth e.depth; omega) ⟨.bl _, H, I, rfl, q⟩
end
def datV : V → PyData
  | .int i => .int i
  | .str x => .str x
  | .bl b => .bool b
  | _ => .none
def FlatV : V → Prop
  | .int _ | .str _ | .bl _ | .non => True
  | _ => False
section
variable {K : PySem.W.Frag} {σ : L2.St} {H : Hp} {ta tb : TE}
theorem dpAll_of {H : Hp} {f : V → PyData} : ∀ {xs : List V}, (∀ x ∈ xs, Dp K H x (f x)) → DpAll K H xs (xs.map f)
  | [], _ => .nil
  | x :: xs, h => .cons (h x (List.mem_cons_self ..)) (dpAll_of fun y hy => h y (List.mem_cons_of_mem _ hy))
theorem dp_flat (H : Hp) {x : V} (h : FlatV x) : Dp K H x (datV x) := by
  cases x with
  | non => exact .non
  | bl b => exact .bl b
  | int i => exact .int i
  | str x => exact .str x
  | _ => exact h.elim
theorem plain_flat (x : V) : (datV x).plain = true := by cases x <;> rfl
theorem plain_flats : ∀ xs : List V, PyData.plainAll (xs.map datV) = true
  | [] => rfl
  | x :: xs => by rw [List.map_cons, PyData.plainAll, plain_flat, plain_flats xs]; rfl
theorem depth_flat : ∀ ys : List V, PyData.depthAll (ys.map datV) = 0
  | [] => rfl
  | y :: ys => by cases y <;> simp [datV, PyData.depthAll, PyData.depth, depth_flat ys]
theorem eqv_nil (xs : List V) : PyData.eqv (.list (xs.map datV)) (.list []) = xs.isEmpty := by
  cases xs with
  | nil => simp [PyData.eqv, PyData.eqvAll]
  | cons x xs => simp [PyData.eqv, PyData.eqvAll]
theorem eqvAll_strs : ∀ xs ys : List Str, PyData.eqvAll ((xs.map V.str).map datV) ((ys.map V.str).map datV) = decide (xs = ys)
  | [], [] => by simp [PyData.eqvAll]
  | [], y :: ys => by simp [PyData.eqvAll]
  | x :: xs, [] => by simp [PyData.eqvAll]
  | x :: xs, y :: ys => by
    have ih := eqvAll_strs xs ys
    simp only [List.map_cons, PyData.eqvAll, ih]
    by_cases h : x = y
    · subst h; simp [datV, PyData.eqv]
    · simp [datV, PyData.eqv, h]
theorem eqvAll_ints : ∀ xs ys : List Int, PyData.eqvAll ((xs.map V.int).map datV) ((ys.map V.int).map datV) = decide (xs = ys)
  | [], [] => by simp [PyData.eqvAll]
  | [], y :: ys => by simp [PyData.eqvAll]
  | x :: xs, [] => by simp [PyData.eqvAll]
  | x :: xs, y :: ys => by
    have ih := eqvAll_ints xs ys
    simp only [List.map_cons, PyData.eqvAll, ih]
    by_cases h : x = y
    · subst h; simp [datV, PyData.eqv]
    · simp [datV, PyData.eqv, h]
/-- xs != [] -/
theorem ev_neNil {p : Addr} {xs : List V} (h : Ev ta σ H (.ref p)) (hp : SqL K H p xs) (hf : ∀ x ∈ xs, FlatV x) : Ev (tOp (rNeP K) ta (tLst tNil)) σ H (.bl (!xs.isEmpty)) :=
  ev_opL (xs := []) h (el_lst ea_nil (by decide)) fun q H1 hq e => rv_val fun H2 e2 Q k => ⟨.list (xs.map datV), .list [], .lst (ex_l (e.trans e2) hp) (dpAll_of fun x hx => dp_flat H2 (hf x hx)), .lst (ex_l e2 (sq_of hq)) .nil, by rw [PyData.plain]; exact plain_flats xs, rfl, by rw [PyData.depth, depth_flat]; decide, by rw [eqv_nil]; exact k⟩
theorem ev_eqNil {p : Addr} {xs : List V} (h : Ev ta σ H (.ref p)) (hp : SqL K H p xs) (hf : ∀ x ∈ xs, FlatV x) : Ev (tOp (rEqP K) ta (tLst tNil)) σ H (.bl xs.isEmpty) :=
  ev_opL (xs := []) h (el_lst ea_nil (by decide)) fun q H1 hq e => rv_val fun H2 e2 Q k => ⟨.list (xs.map datV), .list [], .lst (ex_l (e.trans e2) hp) (dpAll_of fun x hx => dp_flat H2 (hf x hx)), .lst (ex_l e2 (sq_of hq)) .nil, by rw [PyData.plain]; exact plain_flats xs, rfl, by rw [PyData.depth, depth_flat]; decide, by rw [eqv_nil]; exact k⟩
theorem dpl_flat {H : Hp} {p : Addr} {xs : List V} (hp : SqL K H p xs) (hf : ∀ x ∈ xs, FlatV x) : Dp K H (.ref p) (.list (xs.map datV)) := .lst hp (dpAll_of fun x hx => dp_flat H (hf x hx))
theorem plain_lst (xs : List V) : (PyData.list (xs.map datV)).plain = true := by rw [PyData.plain]; exact plain_flats xs
theorem depth_lst (xs : List V) : (PyData.list (xs.map datV)).depth ≤ 32 := by rw [PyData.depth, depth_flat]; decide
theorem flat_strs (xs : List Str) : ∀ x ∈ xs.map V.str, FlatV x := fun x hx => by obtain ⟨y, _, rfl⟩ := List.mem_map.mp hx; trivial
theorem flat_ints' (xs : List Int) : ∀ x ∈ xs.map V.int, FlatV x := fun x hx => by obtain ⟨y, _, rfl⟩ := List.mem_map.mp hx; trivial
end
end Kw


set_option Elab.async false
set_option linter.all false
set_option maxRecDepth 100000
set_option maxHeartbeats 4000000
/-! KwG: generator expressions over what is walked, their elements told by what stands. -/
namespace Kw
open PySem PySem.Spec PyProof.Rows L2 Evl
/-- a code object's table stands, by what growth keeps -/
def tabF (P : Addr) (h : Heap) : Prop := ∃ ps : Array Value, h.get? P = some { cls := .none, data := .fields ps } ∧ TriplesOk ps.toList
def Tab (P : Addr) (H : Hp) : Prop := H P = some (.ext (tabF P))
theorem Tab.ex {P : Addr} {H H' : Hp} (e : Ex H H') (h : Tab P H) : Tab P H' := e _ _ h
theorem Tab.lk {P d : Addr} {H B : Hp} {od : Obj} {kvs : List (Key × V)} (l : LkB H B d od kvs) (h : Tab P H) : Tab P B := l.as h (fun _ z => nomatch z) (fun _ _ z => nomatch z)
theorem walks_imp {prog : Program} {w : World} {A : Around} {I : Addr} {fp wr : List Addr} {n : Nat} {G F : Nat → Value → Prop} {St : Nat → Heap → Prop} (W : Walks prog w A I fp wr n G St) (k : ∀ i v, G i v → F i v) : Walks prog w A I fp wr n F St :=
  { sub := W.sub, frame := W.frame, done := W.done, self := W.self, item := fun i s Q E hi hst q => W.item i s Q E hi hst fun v h' tk g => q v h' tk (k i v g) }
theorem walksS_imp {prog : Program} {w : World} {A : Around} {I : Addr} {fp wr : List Addr} {Gr : Array GenState → Array GenState → Prop} {n : Nat} {G F : Nat → Value → Prop} {St : Nat → Shared → Prop} (W : WalksS prog w A I fp wr Gr n G St) (k : ∀ i v, G i v → F i v) : WalksS prog w A I fp wr Gr n F St :=
  { sub := W.sub, grefl := W.grefl, gtrans := W.gtrans, frame := W.frame, done := W.done, self := W.self, item := fun i s Q E hi hst q => W.item i s Q E hi hst fun v s' g => q v s' (k i v g) }
section
variable {X : Cx} {pins : List (Addr × Obj)} {σ : L2.St} {H : Hp} {s : Shared} {P : Addr}
/-- all is kept but the table, which has grown -/
theorem inv_grown {h' : Heap} {g' : Array GenState} {d' : Drawn} {t' : Nat} (I : Inv X pins σ H s) (hP : Tab P H) (kp : ∀ b o, b ≠ P → s.heap.get? b = some o → h'.get? b = some o) (hm : tabF P h') (hb : AllBare g') : Inv X pins σ H { s with heap := h', gens := g', drawn := d', toks := t' } := by
  have off : ∀ b, H b = none → b ≠ P := fun b n z => by
    subst z
    rw [show H b = some (.ext (tabF b)) from hP] at n
    cases n
  refine I.step (ch := []) (fun _ z => nomatch z) (fun b o _ _ _ e n => kp b o (off b n) e) (fun b o _ _ _ e n => ⟨o.slots, kp b o (off b n) e⟩) (fun _ _ _ _ n => n) (fun b o _ e => ?_) (fun _ _ e => e) (fun _ _ _ e => e) (fun b ps e => ⟨#[], by rw [e]; simp⟩) (fun m hn => ?_) (fun a u e => ?_) hb
  · by_cases z : b = P
    · subst z; exact let ⟨ps, g, _⟩ := hm; ⟨_, g⟩
    · exact ⟨o, kp b o z e⟩
  · obtain ⟨ob, es, ep, ho, rs⟩ := hn
    exact ⟨ob, es, ep, kp _ _ (off _ I.free) ho, rs⟩
  · by_cases z : a = P
    · subst z
      rw [show H a = some (.ext (tabF a)) from hP] at e
      cases e
      obtain ⟨_, _, st⟩ := (show ObjOk _ _ H s.heap a (.ext (tabF a)) from I.hok a _ hP)
      exact ⟨hm, let ⟨ps, g, _⟩ := hm; ⟨_, g⟩, st⟩
    · refine (I.hok a u e).stay (fun d v hd g => kp d v (fun y => ?_) g) (fun _ g => g) fun _ _ g => g
      rcases hd with hd | hd
      · exact z (hd ▸ y)
      · subst y
        rw [show H d = some (.ext (tabF d)) from hP] at hd
        cases hd
/-- how v is walked: n items, of which G tells -/
def Src (X : Cx) (P : Addr) (H1 : Hp) (v : V) (n : Nat) (G : Nat → Value → Prop) : Prop :=
  ∀ (pins : List (Addr × Obj)) (σ : L2.St) (s1 : Shared) (xv : Value) (Er : Value → Shared → Prop) (Qr : Value → Shared → Prop), Inv X pins σ H1 s1 → RelV v xv →
    (∀ (Ia : Addr) (fp wr : List Addr) (St : Nat → Heap → Prop) (h2 : Heap), (∀ A' : Around, A'.handled = none → Walks X.prog X.w A' Ia fp wr n G St) → St 0 h2 → (∀ b ∈ fp, b < h2.objs.size) → P ∉ fp →
      (∀ b o, s1.heap.get? b = some o → h2.get? b = some o) → (∀ b ∈ wr, s1.heap.objs.size ≤ b) → Qr (.ref Ia) { s1 with heap := h2 }) → wpAny (model X.prog X.w) X.A (pyIter xv) Qr Er s1
/-- what the element makes of an item, where all stands as it did -/
def Elm (X : Cx) (P : Addr) (scope : Scope) (x : Str) (elt : Expr) (σ : L2.St) (H1 : Hp) (G F : Nat → Value → Prop) : Prop :=
  ∀ (pins : List (Addr × Obj)) (s1 : Shared) (ce : Env) (A' : Around) (Er : Value → Shared → Prop) (i : Nat) (v : Value) (s2 : Shared) (m2 : Str → Option Value), Inv X pins σ H1 s1 → ce.scope = scope → ce.cells = cloFrom X.env.cells scope.names [] → ce.globals = mainGlobals → ce.builtins = builtinsNs → A'.handled = none → A'.units ≤ X.A.units + 8 →
    (∀ b o, b ≠ P → s1.heap.get? b = some o → s2.heap.get? b = some o) → G i v → s2.heap.Ns ce.locals m2 → m2 x = some v → wpAny (model X.prog X.w) A' (eval elt ce) (fun y s3 => F i y ∧ Keeps s2 s3) Er s2
/-- the generator at g is ready to be walked -/
def Rdy (X : Cx) (pins : List (Addr × Obj)) (σ : L2.St) (H1 : Hp) (n : Nat) (F : Nat → Value → Prop) (g : Addr) (s5 : Shared) : Prop :=
  ∃ (fp wr : List Addr) (Gr : Array GenState → Array GenState → Prop) (St : Nat → Shared → Prop), WalksS X.prog X.w X.A.in4 g fp wr Gr n F St ∧ St 0 s5 ∧ (∀ b ∈ fp, b < s5.heap.objs.size) ∧ g ∈ fp ∧ (∀ i s9, St i s9 → s9.TypeIs (.ref g) "generator") ∧
    ∀ s', Moved wr Gr s5 s' → Inv X pins σ H1 s'
/-- a generator expression's own scope, by what is written -/
def gsB (sc scope : Scope) (x : Str) : Bool :=
  decide (scope.kind = .function) && !scope.isCoroutine && scope.names.all (fun y => decide (y.2 ≠ .cell)) && decide (scope.names.lookup (".0" : Str) = some .local) && decide (scope.names.lookup x = some .local) &&
    scope.names.all (fun y => decide (y.2 ≠ .free) || decide (sc.names.lookup y.1 = some .cell) || decide (sc.names.lookup y.1 = some .free))
theorem genS_of {sc scope : Scope} {x : Str} (ok : X.Ok) (hsc : X.env.scope = sc) (h : gsB sc scope x = true) : GxR.GenS X.env scope x := by
  unfold gsB at h
  simp only [Bool.and_eq_true, decide_eq_true_eq, List.all_eq_true, Bool.or_eq_true, Bool.not_eq_true'] at h
  obtain ⟨⟨⟨⟨⟨h1, h2⟩, h3⟩, h4⟩, h5⟩, h6⟩ := h
  refine ⟨h1, h2, h3, h4, h5, fun y hy hf => ok.has y.1 ?_⟩
  unfold Env.kindOf
  rw [hsc]
  rcases h6 y hy with (z | z) | z
  · exact absurd hf z
  · exact .inl z
  · exact .inr z
theorem gen_q {c : Addr} {elt iter : Expr} {x : Str} {px gpos : Pos} {scope : Scope} {te : TE} {k : Nat} {Qr : Value → Shared → Prop} {R : Nat → (Nat → Value → Prop) → Hp → Prop}
    (hr : Room k X.A) (TB : GxR.TabB X.base X.mg c P) (hcode : X.env.code = .ref c) (hgs : gsB X.env.scope scope x = true) (hi : PE X iter te) (hs : ∀ v, genFold iter X.env v = pure v) (I : Inv X pins σ H s)
    {M : VK} (h : te σ H M) (hM : ∀ v H1, M v H1 → Tab P H1 ∧ ∃ n G F, Src X P H1 v n G ∧ Elm X P scope x elt σ H1 G F ∧ R n F H1) (hQ : ∀ n F H1 g s5, R n F H1 → Rdy X pins σ H1 n F g s5 → Qr (.ref g) s5) :
    wpAny (model X.prog X.w) X.A (eval (.GeneratorExp elt [⟨.Name x px, iter, [], 0⟩] scope gpos) X.env) Qr X.xe s := by
  have S : GxR.GenS X.env scope x := genS_of I.ok rfl hgs
  refine wpAny_GeneratorExp_walksQD hr.hd S.co (closure_ok S.free) S.cell S.dot S.loc S.kind (by have := hr.dp; omega) (thn (hi.run pins s σ H _ I h) fun xv s1 ⟨v, H1, I1, rv, hm0⟩ => ?_) hs
  obtain ⟨hP, n, G, F, hsrc, hel, hR⟩ := hM v H1 hm0
  refine hsrc pins σ s1 xv _ _ I1 rv fun Ia fp wr St h2 W hst hfp hPf hk2 hwr => ?_
  obtain ⟨ps, hps, htr⟩ := (show tabF P s1.heap from (show ObjOk _ _ H1 s1.heap P (.ext (tabF P)) from I1.hok P _ hP).1)
  have hP2 := hk2 _ _ hps
  have hcd : PySem.W.CodeHd h2 c P := TB.code.keeps fun b o e => hk2 _ _ (I1.bk b o e)
  have hlim : h2.NoLimit := I1.nolimit.keeps hk2
  have go : ∀ (code : Value) (h3 : Heap) (tk : Nat) (qs : Array Value), Heap.ExtBut P h2 h3 → h2.objs.size ≤ h3.objs.size → h3.get? P = some { cls := .none, data := .fields qs } → TriplesOk qs.toList →
      wpAny (model X.prog X.w) X.A (builtinsFor X.env.globals X.env.builtins) (fun bi s₄ =>
        ∃ I fp wr n₀ P St₀ pz F, Value.ref Ia = .ref I ∧ (∀ A' : Around, A'.handled = none → Walks X.prog X.w A' I fp wr n₀ P St₀) ∧ St₀ 0 s₄.heap ∧ (∀ b ∈ fp, b < s₄.heap.objs.size) ∧ s₄.heap.NoLimit ∧ cStatics ∉ wr ∧
          (∀ href : Heap, (∀ b o, s₄.heap.get? b = some o → href.get? b = some o) →
            QuietGenD X.prog X.w (genEnv scope (cloFrom X.env.cells scope.names []) s₄.heap.objs.size code bi X.env) x [] elt (List.range s₄.heap.objs.size) wr P pz F href (X.A.depth + 1) (X.A.units + 8)) ∧
          (∀ a h₅ tk gs, gs.bare = true → s₄.heap.objs.size < a → h₅.objs.size = a + 1 → (∀ b o, s₄.heap.get? b = some o → h₅.get? b = some o) →
            WalksS X.prog X.w X.A.in4 a (a :: s₄.heap.objs.size :: List.range s₄.heap.objs.size) (s₄.heap.objs.size :: wr) (GenOnlyQ s₄.gens.size) (passing pz n₀ 0).length
              (fun j y => ∃ i, (passing pz n₀ 0)[j]? = some i ∧ F i y) (GenAt X.prog X.w X.A.in4 a s₄.gens.size s₄.heap.objs.size (List.range s₄.heap.objs.size) wr pz n₀ F) →
            GenAt X.prog X.w X.A.in4 a s₄.gens.size s₄.heap.objs.size (List.range s₄.heap.objs.size) wr pz n₀ F 0 { s₄ with gens := s₄.gens.push gs, toks := tk, heap := h₅ } →
            Qr (.ref a) { s₄ with gens := s₄.gens.push gs, toks := tk, heap := h₅ })) X.xe { s1 with heap := h3, toks := tk } := by
    intro code h3 tk qs hx hge hP3 htr3
    obtain ⟨bm, ob, m1, m2, m3, m4, m5, m6, m7, m8⟩ := TB.bm
    have k3 : ∀ b o, b ≠ P → s1.heap.get? b = some o → h3.get? b = some o := fun b o hb e => hx b o hb (hk2 b o e)
    have base3 : ∀ b o, b ≠ P → X.base.get? b = some o → h3.get? b = some o := fun b o hb e => k3 b o hb (I1.bk b o e)
    have stP : cStatics ≠ P := fun e => by
      obtain ⟨_, ⟨oo, es, ep, ho, hd, _⟩, _⟩ := I1.nolimit
      rw [e, hps] at ho
      cases ho
      cases hd
    have stlt : cStatics < s1.heap.objs.size := let ⟨_, hn, _⟩ := I1.nolimit; hn.lt
    refine wpAny_builtinsFor (m := X.mg) ?_ m1 m2 (base3 _ _ m4 m5) m6 m7 m8 ?_
    · rw [I1.ok.glob]
      exact ((I1.mod.glob.keeps I1.bk).keeps hk2).extBut hx TB.gP
    have oldlt : ∀ b o, s1.heap.get? b = some o → b ≠ P → b ∈ List.range h3.objs.size := fun b o e hb => List.mem_range.mpr (Heap.lt_size (k3 b o hb e))
    refine ⟨Ia, fp, wr, n, G, St, fun _ => true, F, rfl, W, (W X.A hr.hd).frame 0 _ _ hst fun b hb o e => hx b o (fun z => hPf (z ▸ hb)) e, fun b hb => Nat.lt_of_lt_of_le (hfp b hb) hge, hlim.extBut hx stP, fun z => absurd stlt (Nat.not_lt.mpr (hwr _ z)), fun href hhr => ⟨fun A' E' i v' s₂ m₂ _ _ _ _ _ _ _ => ?_, fun A' E' i v' s₂ m₂ hA hd hu hG _ hn hm hk => ?_⟩, fun g h5 tk5 gs hgb hlt5 hsz5 hk5 W5 hat5 => ?_⟩
    · simp only [List.forIn_nil]
      exact wpAny_pure ⟨rfl, s₂.heap, s₂.toks, rfl, fun _ _ e => e⟩
    · refine hel pins s1 _ A' E' i v' s₂ m₂ I1 rfl rfl I1.ok.glob rfl hA hu (fun b o hb e => ?_) hG hn hm
      exact hk b (oldlt b o e hb) (fun z => Nat.lt_irrefl _ (Nat.lt_of_lt_of_le (Heap.lt_size e) (hwr b z))) o (hhr _ _ (k3 b o hb e))
    · rw [GxR.passing_true, List.length_range] at W5
      refine hQ n F H1 g _ hR ⟨_, _, _, _, walksS_imp W5 (fun j y hy => ?_), hat5, fun b hb => ?_, List.mem_cons_self, fun i s9 h9 => h9.1.typeIs, fun s' hmv => ?_⟩
      · obtain ⟨i, hij, hf⟩ := hy
        obtain ⟨hj, ej⟩ := List.getElem?_eq_some_iff.mp hij
        rw [List.getElem_range] at ej
        exact ej ▸ hf
      · have e5 : h5.objs.size = g + 1 := hsz5
        show b < h5.objs.size
        rw [e5]
        have e6 : h3.objs.size < g := hlt5
        rcases List.mem_cons.mp hb with z | hb
        · exact z ▸ Nat.lt_succ_self g
        rcases List.mem_cons.mp hb with z | hb
        · exact z ▸ Nat.lt_succ_of_lt e6
        · exact Nat.lt_succ_of_lt (Nat.lt_trans (List.mem_range.mp hb) e6)
      · have out : ∀ b o, h3.get? b = some o → (s1.heap.get? b ≠ none) → b ∉ h3.objs.size :: wr := fun b o e1 e2 hb => by
          rcases List.mem_cons.mp hb with z | hb
          · exact Nat.lt_irrefl _ (z ▸ Heap.lt_size e1)
          · cases q : s1.heap.get? b with
            | none => exact e2 q
            | some u => exact Nat.lt_irrefl _ (Nat.lt_of_lt_of_le (Heap.lt_size q) (hwr b hb))
        have J := inv_grown (h' := s'.heap) (g' := s'.gens) (d' := s'.drawn) (t' := s'.toks) I1 hP (fun b o hb e => hmv.heap b o (out b o (k3 b o hb e) (by rw [e]; exact fun z => nomatch z)) (hk5 b o (k3 b o hb e)))
          ⟨qs, hmv.heap P _ (out P _ hP3 (by rw [hps]; exact fun z => nomatch z)) (hk5 P _ hP3), htr3⟩ (AllBare.movedS (I1.bare.push hgb) hmv)
        rw [GxR.sh_eta s1 s' hmv.os] at J
        exact J
  refine ⟨hlim, ?_⟩
  cases hf : codeAmong gpos ps.toList with
  | some cv => exact wpAny_genexprCode_hit hcode (hcd.code hP2 htr) hf (go cv h2 s1.toks ps (Heap.ExtBut.refl _ _) (Nat.le_refl _) hP2 htr)
  | none =>
    refine wpAny_genexprCodeX hcode (hcd.code hP2 htr) (hcd.tab hP2) hf fun c' h3 tk hx hge hlt hco _ htab _ => ?_
    obtain ⟨_, _, _, _, _, _, _, _, _, _, _, _, _, _, _, _, _, _, _, tr, _⟩ := hco
    exact go _ h3 tk _ hx (Nat.le_trans hge (Nat.le_of_lt hlt)) htab.2 tr
/-- any(elt for x in e): M tells what is asked of what is walked -/
theorem pe_anyG {c : Addr} {elt iter : Expr} {x : Str} {px p pos gpos : Pos} {scope : Scope} {te : TE} {k : Nat} (M : L2.St → VK → VK) (hr : Room k X.A) (B : Blt X.mg) (TB : GxR.TabB X.base X.mg c P) (hcode : X.env.code = .ref c) (hgs : gsB X.env.scope scope x = true) (hi : PE X iter te)
    (hM : ∀ σ Q v H1, M σ Q v H1 → Tab P H1 ∧ ∃ (n : Nat) (G : Nat → Value → Prop) (pb : Nat → Bool), Src X P H1 v n G ∧ Elm X P scope x elt σ H1 G (fun i y => y = .bool (pb i)) ∧ Q (.bl ((List.range n).any pb)) H1)
    (hs : ∀ v, genFold iter X.env v = pure v := by intro _; rfl) (hg : Gl X "any" := by rfl)
    (he : starEach [.GeneratorExp elt [⟨.Name x px, iter, [], 0⟩] scope gpos] X.env = (false, eval (.GeneratorExp elt [⟨.Name x px, iter, [], 0⟩] scope gpos) X.env) :: starEach [] X.env := by rfl) :
    PE X (.Call (.Name "any" p) [.GeneratorExp elt [⟨.Name x px, iter, [], 0⟩] scope gpos] [] pos) (fun σ H Q => te σ H (M σ Q)) := by
  refine ⟨fun pins s σ H Q I h => wpAny_Call_Name_kw (ld_blt I hg B.any PyProof.Rows.boot_any (PyProof.Rows.callWith_builtin1 ?_ he (by rfl)))⟩
  rw [he]
  show wpAny _ _ (spliced ((false, eval (.GeneratorExp elt [⟨.Name x px, iter, [], 0⟩] scope gpos) X.env) :: backTo pos (starEach [] X.env))) _ _ s
  refine Calls.spliced_cons (gen_q (R := fun n F H1 => ∃ pb : Nat → Bool, F = (fun i y => y = .bool (pb i)) ∧ Q (.bl ((List.range n).any pb)) H1) hr TB hcode hgs hi hs I h (fun v H1 hm => let ⟨hP, n, G, pb, h1, h2, q⟩ := hM σ Q v H1 hm; ⟨hP, n, G, _, h1, h2, pb, rfl, q⟩) fun n F H1 g s5 hR hG => ?_)
  obtain ⟨pb, rfl, q⟩ := hR
  obtain ⟨fp, wr, Gr, St, W, hst, _, _, _, hI⟩ := hG
  refine Calls.spliced_nil ?_
  have W1 := W.in4_1
  exact call_any_walkS (W1.self 0 _ _ _ hst ⟨g, fp, wr, Gr, _, _, St, pb, rfl, W1, hst, fun i v s Q E hv hq => by rw [show v = .bool (pb i) from hv]; exact wpAny_truthy_bool hq, fun s' hm => ⟨.bl _, H1, hI s' hm, rfl, q⟩⟩)
/-- items by their values -/
def GV (xs : List V) : Nat → Value → Prop := fun i u => ∃ y, xs[i]? = some y ∧ RelV y u
theorem src_tup {H1 : Hp} {a : Addr} {xs : List V} (hP : Tab P H1) (h : SqT X.K H1 a xs) : Src X P H1 (.ref a) xs.length (GV xs) := by
  intro pins σ s1 xv Er Qr I rv k
  obtain rfl : xv = .ref a := rv
  obtain ⟨its, rvs, ht, hz⟩ := I.tuple h
  obtain ⟨ob, ho, hcl, nn, hda⟩ := ht
  have hT : s1.heap.IsTuple a its.toArray := ⟨ob, ho, hcl, nn, hda⟩
  obtain ⟨ps, hps, _⟩ := (show tabF P s1.heap from (show ObjOk _ _ H1 s1.heap P (.ext (tabF P)) from I.hok P _ hP).1)
  have hlen : its.toArray.size = xs.length := by rw [List.size_toArray]; exact rvs.length.symm
  have alt : a < s1.heap.objs.size := Heap.lt_size ho
  refine wpAny_pyIter_tuple hT ?_
  generalize hoi : ({ cls := .type "tuple_iterator", data := .fields #[.ref a, .int 0 0] } : Obj) = oi
  have hit : (s1.heap.push oi).IsTupleIter s1.heap.objs.size a 0 := by subst hoi; exact ⟨_, Heap.get?_push_size _ rfl, rfl, rfl⟩
  have szp : (s1.heap.push oi).objs.size = s1.heap.objs.size + 1 := Heap.size_push ..
  refine k s1.heap.objs.size [s1.heap.objs.size, a] [s1.heap.objs.size] _ _ (fun A' hA => walks_imp (hlen ▸ Walks.tuple hA s1.heap.objs.size a (Nat.ne_of_lt alt) its.toArray) fun i v hv => ?_) ⟨hit, ⟨ob, Heap.get?_push_of_some _ ho, hcl, nn, hda⟩⟩ (fun b hb => ?_) (fun z => ?_) (fun b o e => Heap.get?_push_of_some _ e) fun b hb => by rw [List.mem_singleton.mp hb]; exact Nat.le_refl _
  · have hv2 : its[i]? = some v := by rw [List.getElem?_toArray] at hv; exact hv
    have hi2 : i < xs.length := by rw [rvs.length]; exact (List.getElem?_eq_some_iff.mp hv2).1
    obtain ⟨u, hu, ru⟩ := rvs.get (List.getElem?_eq_getElem hi2)
    rw [hv2] at hu
    cases hu
    exact ⟨_, List.getElem?_eq_getElem hi2, ru⟩
  · rw [szp]
    rcases List.mem_cons.mp hb with rfl | hb
    · exact Nat.lt_succ_self _
    · rw [List.mem_singleton.mp hb]; exact Nat.lt_succ_of_lt alt
  · rcases List.mem_cons.mp z with z | z
    · exact Nat.lt_irrefl _ (z ▸ Heap.lt_size hps)
    · rw [List.mem_singleton.mp z] at hps
      rw [ho] at hps
      cases hps
      cases hda
/-- a captured name of the running def, read in the element -/
theorem elm_name {scope : Scope} {y : Str} {i : Nat} {w : V} {s2 : Shared} {ce : Env} {A' : Around} {Er : Value → Shared → Prop} {Qr : Value → Shared → Prop} {py : Pos} (I : Inv X pins σ H s) (hsc : ce.scope = scope) (hcl : ce.cells = cloFrom X.env.cells scope.names [])
    (hk : scope.kind = .function) (hfr : ∀ z ∈ scope.names, z.2 = .free → ∃ c, X.env.cells.lookup z.1 = some c) (hP : Tab P H) (kp : ∀ b o, b ≠ P → s.heap.get? b = some o → s2.heap.get? b = some o) (hN : X.N[i]? = some y) (hv : X.env.scope.names.lookup y = some .cell ∨ X.env.scope.names.lookup y = some .free) (hf : scope.names.lookup y = some .free)
    (hσ : σ[i]? = some (some w)) (hdb : (y == ("__debug__" : Str)) = false) (hcd : (y == ("__classdict__" : Str)) = false) (q : ∀ u, RelV w u → Qr u s2) : wpAny (model X.prog X.w) A' (eval (.Name y py) ce) Qr Er s2 := by
  obtain ⟨m, hn, hl⟩ := I.loc
  obtain ⟨u, r, lk⟩ := hl i y w hN hσ (hv.elim (fun z => .inr (.inl z)) fun z => .inr (.inr z))
  rcases lk with ⟨z, _⟩ | ⟨_, c, hc, hcell⟩
  · unfold Env.kindOf at z
    rcases hv with hv | hv <;> rw [hv] at z <;> cases z
  · have hcP : c ≠ P := fun z => by
      have g := I.freeC y c hc
      rw [z, show H P = some (.ext (tabF P)) from hP] at g
      cases g
    obtain ⟨oc, ho, hd⟩ := hcell
    refine wpAny_Name (wpAny_loadName_free (by rw [hsc]; exact hk) (by unfold Env.kindOf; rw [hsc]; exact hf) ?_ ⟨oc, kp c oc hcP ho, hd⟩ (q u r) hcd) hdb
    rw [hcl]
    exact NdefX.clo_has hfr (PySem.mem_of_lookup hf) hc
end
end Kw


set_option Elab.async false
set_option linter.all false
set_option maxRecDepth 100000
set_option maxHeartbeats 4000000
/-! KwT: try: .. except (A, B): .., where every exception of the body is one of the two. -/
namespace Kw
open PySem PySem.Spec PyProof.Rows L2 Evl
/-- a new object beside: the landed exception lies as it did -/
theorem fly_push {B h : Heap} {l : List Env} {e : Addr} {Z : Obj → Prop} (x : HandSPX.FlyingZ B l e Z h) (o : Obj) : HandSPX.FlyingZ B l e Z (h.push o) := by
  obtain ⟨x1, x2, x3, oe, vs, T, oT, ts, y1, y2, y3, y4, y5, y6, y7, y8, y9⟩ := x
  exact ⟨fun b u g => Heap.get?_push_of_some _ (x1 b u g), x2, Heap.FunFrames.of_keeps (fun b u g _ => ⟨u, Heap.get?_push_of_some _ g, rfl⟩) x3, oe, vs, T, oT, ts, Heap.get?_push_of_some _ y1, y2, y3, y4, y5, y6, Heap.get?_push_of_some _ y7, y8, y9⟩
/-- what the clause wishes: the class is one of the two, and the suite's end -/
def wTwo (K : PySem.W.Frag) (c1 c2 : Value) (ts : Addr → Value → Option Addr → TS) (D : Ends) : WX := fun cls d σ H => PySem.W.exmAny K cls [c1, c2] = some true ∧ ∀ a, H a = none → ts a cls d D σ H
section
variable {X : Cx} {x1 x2 : Str} {c1 c2 : Value} {body suite : List Stmt} {b₀ : Stmt} {p1 p2 tp pos pos' : Pos} {kk : Nat} {tb : WX → TS} {ts : Addr → Value → Option Addr → TS}
theorem ps_tryTwo (hs : X.stack = X.env :: X.outer) (hf : X.env.frame = some X.env.locals) (n1 : Names X x1 c1) (n2 : Names X x2 c2)
    (hb : ∀ (W : WX) (pn : List (Addr × Obj)) (xe : Value → Shared → Prop), Takes (X.tr pn xe) W → PassesOwn (model X.prog X.w) X.A X.env xe → PSs (X.tr pn xe) body (tb W))
    (hsu : ∀ (a : Addr) (oe : Obj) (cls : Value) (d : Option Addr) (pn : List (Addr × Obj)), Zc cls d oe → (∃ vs, oe.data = .fields vs) → PSs (X.suite a ((a, oe) :: pn)) (b₀ :: suite) (ts a cls d)) :
    PS X (.Try body [.ExceptHandler (some (.Tuple [.Name x1 p1, .Name x2 p2] kk tp)) none (b₀ :: suite) pos'] [] [] pos) (fun D σ H => tb (wTwo X.K c1 c2 ts D) D σ H) := by
  refine ⟨fun pins s σ H D I hw => wpAny_Try_except ?_⟩
  have okX := I.ok
  have frX : X.A.frames = some (X.env :: X.outer) := by rw [okX.frames, hs]
  refine wpAny_mono ((hb (wTwo X.K c1 c2 ts D) (X.pn ++ pins) (fun e q => wpAny (model X.prog X.w) X.A (noteFrame e X.env) (fun _ q2 => wpAny (model X.prog X.w) X.A (setFlight e none) (fun _ q3 =>
    wpAny (model X.prog X.w) X.A (handleBy e X.env [.ExceptHandler (some (.Tuple [.Name x1 p1, .Name x2 p2] kk tp)) none (b₀ :: suite) pos']) (SP X pins D) X.xe q3) X.xe q2) X.xe q) (fun u q' xx => ?_) PassesOwn.looking).run [] s σ H D (I.toTry _) hw) (fun f q hsp => ?_) (fun e q he => he)
  · obtain ⟨a, B, sI, pins', σ', H', cls, d, rfl, JT, nb, up, sky, na, os, ag, hyes, hgo⟩ := xx
    have J : Inv X pins σ' H' sI := JT.ofTry okX
    have skyX : Sky B (X.env :: X.outer) a (Zc cls d) X.env.locals q'.heap := by rw [← hs]; exact sky
    show wpAny (model X.prog X.w) X.A (noteFrame (.ref a) X.env) _ _ _
    refine Sky.land Zc.steady frX hf skyX fun g3 fly3 up3 => ?_
    have J3 : Inv X pins σ' H' { q' with heap := g3 } := J.landed nb fly3.1 (up.trans up3) os ag
    obtain ⟨oe, evs, ge, hz, hde⟩ := fly3.there
    have apart : a ∉ frs (X.env :: X.outer) := fun hm => by
      obtain ⟨_, o', e', hno⟩ := fly3.2.2.1.mem hm
      rw [ge] at e'
      cases e'
      exact hno _ hde
    have aL : a ≠ X.env.locals := fun z => apart (List.mem_filterMap.mpr ⟨X.env, List.mem_cons_self, by rw [hf, z]⟩)
    have aF : a ∉ X.fs := fun hm => by
      obtain ⟨e, he, z⟩ := List.mem_filterMap.mp hm
      exact apart (List.mem_filterMap.mpr ⟨e, List.mem_cons_of_mem _ he, z⟩)
    have S3 := J3.suite ge hde na aL aF
    refine wpAny_handleBy_cons (codeAny_handlers_test ?_) (by intro z; cases z)
    have ld : ∀ {x : Str} {c : Value} {p : Pos} {Qn : Value → Shared → Prop} {En : Value → Shared → Prop}, Names X x c → Qn c { q' with heap := g3 } → wpAny (model X.prog X.w) (X.A.mark (some (.ref a))) (eval (.Name x p) X.env) Qn En { q' with heap := g3 } := fun {x c p Qn En} n z => by
      obtain ⟨hg, hdbg, hm | ⟨hm, hv, hnn⟩⟩ := n
      · exact ld_glob (X := X.suite a ((a, oe) :: (X.pn ++ pins))) S3 hg hm z hdbg
      · exact ld_blt (X := X.suite a ((a, oe) :: (X.pn ++ pins))) S3 hg hm hv z hnn hdbg
    refine wpAny_Tuple (wpAny_items_cons (ld n1 (wpAny_items_cons (ld n2 (wpAny_items_nil ⟨by show 2 ≤ sizeLine; decide, ?_⟩)))))
    have kp : ∀ b o, g3.get? b = some o → (g3.push { cls := .type "tuple", data := .seq [c1, c2].toArray }).get? b = some o := fun _ _ z => Heap.get?_push_of_some _ z
    have fly4 := fly_push fly3 { cls := .type "tuple", data := .seq [c1, c2].toArray }
    have LT : PySem.W.Looks (model X.prog X.w) (g3.push { cls := .type "tuple", data := .seq [c1, c2].toArray }) (typeOf (.ref a)) cls := fun A Q E s k z => wpAny_typeOf_ref (k _ _ (kp _ _ ge)) (by rw [hz.1]; exact z)
    refine (PySem.W.exm_tup2 ((J3.kIn).keeps kp) LT (Heap.get?_push_size _ rfl) hyes).here ?_
    refine codeAny_handlers_suite ?_
    refine HandSPX.lands_againZ fly4 fun g5 fly5 up5 => ?_
    have J5 : Inv X pins σ' H' { q' with heap := g5 } := J.landed nb fly5.1 (((up.trans up3).trans (fun b o g _ => ⟨o.slots, kp b o g⟩)).trans up5) os ag
    obtain ⟨oe5, evs5, ge5, hz5, hde5⟩ := fly5.there
    have S5 := J5.suite ge5 hde5 na aL aF
    refine wpAny_mono ((hsu a oe5 cls d (X.pn ++ pins) hz5 ⟨_, hde5⟩).run [] _ _ H' _ S5 (hgo a na)) (fun f q6 hsp => ?_) (fun _ _ z => False.elim z)
    cases f with
    | next => exact let ⟨σ6, H6, S6, z⟩ := hsp; ⟨_, _, S6.unsuite okX, z⟩
    | brk => exact let ⟨σ6, H6, S6, z⟩ := hsp; ⟨_, _, S6.unsuite okX, z⟩
    | cont => exact let ⟨σ6, H6, S6, z⟩ := hsp; ⟨_, _, S6.unsuite okX, z⟩
    | ret u => exact let ⟨v6, σ6, H6, S6, r6, z⟩ := hsp; ⟨_, _, _, S6.unsuite okX, r6, z⟩
  · cases f with
    | next => exact let ⟨σ', H', JT, z⟩ := hsp; wpAny_execs_nil ⟨σ', H', JT.ofTry okX, z⟩
    | brk => exact let ⟨σ', H', JT, z⟩ := hsp; ⟨σ', H', JT.ofTry okX, z⟩
    | cont => exact let ⟨σ', H', JT, z⟩ := hsp; ⟨σ', H', JT.ofTry okX, z⟩
    | ret u => exact let ⟨v, σ', H', JT, r, z⟩ := hsp; ⟨v, σ', H', JT.ofTry okX, r, z⟩
end
end Kw


set_option Elab.async false
set_option linter.all false
set_option maxRecDepth 100000
set_option maxHeartbeats 4000000
/-! KwI: sorted(d.items()). -/
namespace Kw
open PySem PySem.Spec PyProof.Rows L2 Evl
/-- the rows of a dict laid as tuples at the places as -/
def layR (H : Hp) (zs : List (Addr × (Key × V))) : Hp := fun b => match zs.find? (fun z => decide (z.1 = b)) with
  | some z => some (.tup [kV z.2.1, z.2.2])
  | none => H b
theorem layR_off {H : Hp} {zs : List (Addr × (Key × V))} {b : Addr} (h : b ∉ zs.map (·.1)) : layR H zs b = H b := by
  unfold layR
  have e : zs.find? (fun z => decide (z.1 = b)) = none := by
    rw [List.find?_eq_none]
    intro z hz q
    exact h (List.mem_map.mpr ⟨z, hz, of_decide_eq_true q⟩)
  rw [e]
theorem layR_at {H : Hp} {zs : List (Addr × (Key × V))} (n : (zs.map (·.1)).Nodup) {z : Addr × (Key × V)} (h : z ∈ zs) : layR H zs z.1 = some (.tup [kV z.2.1, z.2.2]) := by
  unfold layR
  have e : zs.find? (fun y => decide (y.1 = z.1)) = some z := by
    induction zs with
    | nil => cases h
    | cons y r ih =>
      have n' := List.nodup_cons.mp n
      rw [List.find?_cons]
      rcases List.mem_cons.mp h with e | h'
      · subst e; simp
      · by_cases c : y.1 = z.1
        · exact absurd (List.mem_map.mpr ⟨z, h', c.symm⟩) n'.1
        · simp only [c, decide_false]; exact ih n'.2 h'
  rw [e]
theorem zip_fst {β γ : Type} : ∀ {xs : List β} {ys : List γ}, xs.length = ys.length → (xs.zip ys).map (·.1) = xs
  | [], [], _ => rfl
  | [], _ :: _, h => by cases h
  | _ :: _, [], h => by cases h
  | x :: xs, y :: ys, h => by simp [zip_fst (Nat.succ.inj h)]
theorem zip_snd {β γ : Type} : ∀ {xs : List β} {ys : List γ}, xs.length = ys.length → (xs.zip ys).map (·.2) = ys
  | [], [], _ => rfl
  | [], _ :: _, h => by cases h
  | _ :: _, [], h => by cases h
  | x :: xs, y :: ys, h => by simp [zip_snd (Nat.succ.inj h)]
theorem zip_at {β γ : Type} {xs : List β} {ys : List γ} {z : β × γ} (h : z ∈ xs.zip ys) : ∃ j : Nat, xs[j]? = some z.1 ∧ ys[j]? = some z.2 := by
  obtain ⟨j, hj⟩ := List.mem_iff_getElem?.mp h
  rw [List.getElem?_zip_eq_some] at hj
  exact ⟨j, hj⟩
theorem zip_in {β γ : Type} {xs : List β} {ys : List γ} {z : β × γ} (h : z ∈ xs.zip ys) : z.1 ∈ xs := (zip_at h).elim fun _ q => List.mem_of_getElem? q.1
section
variable {X : Cx} {pins : List (Addr × Obj)} {σ : L2.St} {H : Hp} {s : Shared}
theorem rows_laid {h' : Heap} {tk lo : Nat} {kvs : List (Key × V)} {vs : List (Key × Value)} {as : List Addr} (I : Inv X pins σ H s) (kv : KV kvs vs) (hlo : s.heap.objs.size ≤ lo)
    (hk : ∀ b o, s.heap.get? b = some o → h'.get? b = some o) (hl : as.length = vs.length) (hG : PySem.W.KdxG (mixKind X.prog X.w) vs lo h' as) :
    (∀ z ∈ as.zip kvs, H z.1 = none) ∧ ((as.zip kvs).map (·.1)).Nodup ∧ Inv X pins σ (layR H (as.zip kvs)) { s with heap := h', toks := tk } := by
  have lk : as.length = kvs.length := by rw [hl]; exact (Paired.length kv).symm
  have nd : ((as.zip kvs).map (·.1)).Nodup := by
    rw [zip_fst lk]
    exact hG.rise.imp fun {a b} h => Nat.ne_of_lt h
  have fresh : ∀ z ∈ as.zip kvs, H z.1 = none := fun z hz => I.hok.fresh (Nat.le_trans hlo (Nat.le_of_lt (hG.above _ (zip_in hz))))
  have keep : ∀ b u, H b = some u → layR H (as.zip kvs) b = some u := fun b u e => by
    rw [layR_off (fun hb => by
      obtain ⟨z, hz, rfl⟩ := List.mem_map.mp hb
      rw [fresh z hz] at e
      cases e)]
    exact e
  refine ⟨fresh, nd, ?_⟩
  refine I.call' (ch := []) rfl ⟨fun b o q _ _ _ => hk b o q, fun b o q _ _ _ => ⟨o.slots, hk b o q⟩, fun b o q n _ => ?_, fun b o q _ => ⟨o, hk b o q⟩, fun b xs q => keep b _ q, fun b o u q => keep b _ q, fun b ps q => ⟨#[], by rw [keep b _ q]; simp⟩⟩ (fun b u q => ?_) I.bare fun b z => by simp at z
  · rw [layR_off (fun hb => by
      obtain ⟨z, hz, rfl⟩ := List.mem_map.mp hb
      have g1 := hG.above _ (zip_in hz)
      exact absurd (Nat.lt_of_lt_of_le (Heap.lt_size q) hlo) (Nat.lt_asymm g1))]
    exact n
  · by_cases hb : b ∈ (as.zip kvs).map (·.1)
    · obtain ⟨z, hz, rfl⟩ := List.mem_map.mp hb
      rw [layR_at nd hz] at q
      cases q
      obtain ⟨j, j1, j2⟩ := zip_at hz
      obtain ⟨key, k, x, f1, f2, f3⟩ := hG.pairs j _ j1
      obtain ⟨qv, g1, g2, g3⟩ := LiI.paired_get kv j2
      rw [f1] at g1
      cases g1
      have rk : RelV (kV z.2.1) key := by
        rw [g2]
        exact relV_key (show keyIs k key = true from f2)
      exact ⟨by show 2 ≤ sizeLine; decide, [key, x], .cons rk (.cons g3 .nil), ⟨_, f3, rfl, _, rfl⟩⟩
    · rw [layR_off hb] at q
      exact (I.hok b u q).stay (fun d v _ y => hk d v y) (fun d y => keep d _ y) fun d xs y => keep d _ y
def tSrtI (K : PySem.W.Frag) (te : TE) : TE := fun σ H Q => te σ H fun x H1 => ∃ (d : Addr) (kvs : List (Key × V)) (ds : Key × V → PyData), x = .ref d ∧ Rd H1 d (.dK kvs) ∧
  (∀ q ∈ kvs, ∀ H' t, Ex H1 H' → H' t = some (.tup [kV q.1, q.2]) → Dp K H' (.ref t) (ds q)) ∧ PySem.W.AllAlike (kvs.map ds) ∧ PySem.W.Sortable (kvs.map ds) ∧ (∀ q ∈ kvs, (ds q).depth ≤ 8) ∧
  ∀ H' (p : Addr) (ts : List Addr), Ex H1 H' → H1 p = none → H' p = some (.lst (ts.map V.ref)) → Paired (fun t q => H' t = some (.tup [kV q.1, q.2])) ts (kvs.mergeSort (PySem.W.dataLe false ds)) → Q (.ref p) H'
theorem paired_map {β γ δ : Type} {F : β → γ → Prop} {f : δ → β} {g : δ → γ} : ∀ {zs : List δ}, (∀ z ∈ zs, F (f z) (g z)) → Paired F (zs.map f) (zs.map g)
  | [], _ => .nil
  | z :: zs, h => .cons (h z (List.mem_cons_self ..)) (paired_map fun y hy => h y (List.mem_cons_of_mem _ hy))
theorem vals_of_refs : ∀ as : List Addr, Vals (as.map V.ref) (as.map Value.ref)
  | [] => .nil
  | _ :: as => .cons rfl (vals_of_refs as)
theorem b_sorteditems {e : Expr} {te : TE} {p apos cpos pos : Pos} (B : Blt X.mg) (hu : X.A.units + 64 < cLine) (he : PE X e te) (hc : X.calm = true := by rfl) (hg : Gl X "sorted" := by rfl) (hbase : attributeBase e "items" X.env (eval e X.env) = eval e X.env := by rfl) (hline : (apos.endLine == cpos.line) = true := by rfl)
    (hs : starEach [.Call (.Attribute e "items" apos) [] [] cpos] X.env = (false, eval (.Call (.Attribute e "items" apos) [] [] cpos) X.env) :: starEach [] X.env := by rfl) :
    PE X (.Call (.Name "sorted" p) [.Call (.Attribute e "items" apos) [] [] cpos] [] pos) (tSrtI X.K te) := by
  refine ⟨fun pins s σ H Q I hq => ?_⟩
  refine wpAny_Call_Name_kw (ld_blt I hg B.sorted (by decide +kernel : bootBuiltins "sorted" = some (.builtin "sorted")) ?_)
  refine PyProof.Rows.callWith_builtin1 ?_ hs rfl
  rw [hs]
  refine Calls.spliced_cons (wpAny_Call_method (T := "dict") (id := "dict.items") hbase rfl hline F.plainAttrs_dict F.slot_dict_items F.type_dict_items (thn (he.run pins s σ H _ I hq) fun u s1 ⟨x, H1, I1, rx, d, kvs, ds, ex, hd, h1, h2, h3, h4, q⟩ => ?_))
  subst ex
  obtain rfl : u = Value.ref d := rx
  obtain ⟨hz, hs0, vs, kv, hdo⟩ := dk_rd I1.hok hd
  obtain ⟨ep, hat⟩ := hdo.dictAt
  have lk : kvs.length = vs.length := Paired.length kv
  have I2 : Inv X pins σ H1 { s1 with heap := s1.heap.push { cls := .type "dict_items", data := .fields #[.ref d] } } := I1.kept (t' := s1.toks) fun b ob q => Heap.get?_push_of_some _ q
  refine ⟨hdo.typeIs, hdo.mapOf.noDict, ?_⟩
  refine method_meetsIn F.slot_dict_items F.entry_dict_items rfl (PySem.evalArgs_none ⟨rfl, hdo.typeIs, F.args_dict_items_1 _, _, meets_dict_items (mixKind X.prog X.w) d hs0, ⟨vs, hdo⟩, ?_⟩)
  refine Calls.spliced_nil ?_
  refine sorted_of (pins := pins) (σ := σ) hu (PySem.W.kdx_collect (knd := mixKind X.prog X.w) (kvs := vs) (ep := ep) (I1.ok.hd hc) ⟨_, Heap.get?_push_size _ rfl, rfl, rfl⟩ (hat.push _) (by omega) fun h' tk as hk hl hG => ?_)
  obtain ⟨fr, nd, J⟩ := rows_laid (tk := tk) I2 kv (Nat.le_refl _) hk hl hG
  have la : as.length = kvs.length := by rw [hl, lk]
  have ex' : Ex H1 (layR H1 (as.zip kvs)) := fun b u e => by
    rw [layR_off (fun hb => by
      obtain ⟨z, hz, rfl⟩ := List.mem_map.mp hb
      rw [fr z hz] at e
      cases e)]
    exact e
  let f : Addr × (Key × V) → VD := fun z => (V.ref z.1, ds z.2)
  have eb : ((as.zip kvs).map f).map (·.1) = as.map V.ref := by
    rw [List.map_map]
    show (as.zip kvs).map (fun z => V.ref z.1) = _
    conv => rhs; rw [← zip_fst la]
    rw [List.map_map]; rfl
  have ed : ((as.zip kvs).map f).map (·.2) = kvs.map ds := by
    rw [List.map_map]
    show (as.zip kvs).map (fun z => ds z.2) = _
    conv => rhs; rw [← zip_snd la]
    rw [List.map_map]; rfl
  refine ⟨layR H1 (as.zip kvs), (as.zip kvs).map f, J, by rw [eb]; exact vals_of_refs as, ⟨fun b hb => ?_, by rw [ed]; exact h2, by rw [ed]; exact h3, fun b hb => ?_⟩, by simp; omega, fun r s' hr I' => ⟨.ref r, _, I', rfl, ?_⟩⟩
  · obtain ⟨z, hz, rfl⟩ := List.mem_map.mp hb
    have hz2 : z.2 ∈ kvs := (zip_at hz).elim fun j h => List.mem_of_getElem? h.2
    exact h1 z.2 hz2 _ _ ex' (layR_at nd hz)
  · obtain ⟨z, hz, rfl⟩ := List.mem_map.mp hb
    exact h4 z.2 ((zip_at hz).elim fun j h => List.mem_of_getElem? h.2)
  · have hr1 : H1 r = none := by
      cases e : H1 r with
      | none => rfl
      | some o => rw [ex' _ _ e] at hr; cases hr
    have e1 : (srt ((as.zip kvs).map f)) = ((as.zip kvs).mergeSort fun a b => PySem.W.dataLe false (fun b : VD => b.2) (f a) (f b)).map f := (map_mergeSort f _ _ (fun _ _ => rfl) _).symm
    have e2 : kvs.mergeSort (PySem.W.dataLe false ds) = ((as.zip kvs).mergeSort fun a b => PySem.W.dataLe false (fun b : VD => b.2) (f a) (f b)).map (·.2) := by
      have e3 := map_mergeSort (fun z : Addr × (Key × V) => z.2) (fun a b => PySem.W.dataLe false (fun b : VD => b.2) (f a) (f b)) (PySem.W.dataLe false ds) (fun a b => rfl) (as.zip kvs)
      rw [zip_snd la] at e3
      exact e3.symm
    refine q _ r (((as.zip kvs).mergeSort fun a b => PySem.W.dataLe false (fun b : VD => b.2) (f a) (f b)).map (·.1)) (ex'.trans (Ex.new hr)) hr1 ?_ ?_
    · rw [upd_same, e1, List.map_map, List.map_map]; rfl
    · rw [e2]
      refine paired_map fun z hz => ?_
      have hz' : z ∈ as.zip kvs := (List.mergeSort_perm ..).mem_iff.mp hz
      exact Ex.new hr _ _ (layR_at nd hz')
end
section
variable {K : PySem.W.Frag} {σ : L2.St} {H : Hp} {te : TE} {β : Type}
/-- rows of texts and things of one kind, the texts all different: sorted by the texts -/
def rowsBy (t : List (Str × β)) : List (Str × β) := t.mergeSort fun a b => leS a.1 b.1
theorem rowsBy_perm (t : List (Str × β)) : (rowsBy t).Perm t := List.mergeSort_perm ..
theorem ks_rowsBy [DecidableEq β] (t : List (Str × β)) : ks (rowsBy t) = sortS (ks t) := by
  unfold ks rowsBy sortS
  exact map_mergeSort Prod.fst _ _ (fun _ _ => rfl) t
theorem sort_pairs {vb : β → V} {db : β → PyData} (hal : ∀ a b, PySem.W.alike (db a) (db b) = true) (ds : Key × V → PyData) (hds : ∀ r : Str × β, ds (Sum.inr r.1, vb r.2) = .tuple [.str r.1, db r.2]) {t : List (Str × β)} (n : (ks t).Nodup) :
    (en Sum.inr vb t).mergeSort (PySem.W.dataLe false ds) = en Sum.inr vb (rowsBy t) := by
  have e1 : (en Sum.inr vb t).mergeSort (PySem.W.dataLe false ds) = en Sum.inr vb (t.mergeSort fun a b => PySem.W.dataLe false ds (Sum.inr a.1, vb a.2) (Sum.inr b.1, vb b.2)) := by
    unfold en
    exact (map_mergeSort (fun r : Str × β => ((Sum.inr r.1 : Key), vb r.2)) (fun a b => PySem.W.dataLe false ds (Sum.inr a.1, vb a.2) (Sum.inr b.1, vb b.2)) (PySem.W.dataLe false ds) (fun _ _ => rfl) t).symm
  rw [e1]
  congr 1
  have key : ∀ a ∈ t, ∀ b ∈ t, PySem.W.dataLe false ds (Sum.inr a.1, vb a.2) (Sum.inr b.1, vb b.2) = leS a.1 b.1 := fun a ha b hb => by
    rw [PySem.W.dataLe_eq]
    show (!PySem.W.dataLt (ds (Sum.inr b.1, vb b.2)) (ds (Sum.inr a.1, vb a.2))) = leS a.1 b.1
    rw [hds, hds, PySem.W.dataLt_pair (by simp [PySem.W.alike]) (hal _ _)]
    by_cases c : a.1 = b.1
    · have h1 := lk_of n (k := a.1) (v := a.2) ha
      have h2 := lk_of n (k := b.1) (v := b.2) hb
      rw [c, h2] at h1
      have e := Option.some.inj h1
      rw [c, e, PySem.W.eqv_refl_alike _ (by simp [PySem.W.alike]), PySem.W.eqv_refl_alike _ (hal _ _)]
      unfold leS
      simp
    · have e2 : PyData.eqv (.str b.1) (.str a.1) = false := by
        simp only [PyData.eqv]
        simpa using fun z : b.1 = a.1 => c z.symm
      rw [e2]
      show (!PySem.W.dataLt (.str b.1) (.str a.1)) = _
      rw [PySem.W.dataLt_str]
      unfold leS
      by_cases h : a.1.cps.toList ≤ b.1.cps.toList
      · rw [decide_eq_true h, decide_eq_false (fun z => absurd z (List.not_lt.mpr h))]; rfl
      · rw [decide_eq_false h, decide_eq_true (List.not_le.mp h)]; rfl
  have go : ∀ (r q : Str × β → Str × β → Bool), (∀ a ∈ t, ∀ b ∈ t, r a b = q a b) → t.mergeSort r = t.mergeSort q := fun r q h => by
    have e3 : t = t.attach.map (·.1) := (List.attach_map_subtype_val t).symm
    rw [e3, ← map_mergeSort (fun a : { x // x ∈ t } => a.1) (fun a b => r a.1 b.1) r (fun _ _ => rfl), ← map_mergeSort (fun a : { x // x ∈ t } => a.1) (fun a b => q a.1 b.1) q (fun _ _ => rfl)]
    have e4 : (fun a b : { x // x ∈ t } => r a.1 b.1) = fun a b => q a.1 b.1 := by
      funext a b
      exact h a.1 a.2 b.1 b.2
    rw [e4]
  exact go _ _ key
/-- sorted(d.items()): texts by texts, by truth values -/
theorem en_sorteditems {vb : β → V} {db : β → PyData} (hal : ∀ a b, PySem.W.alike (db a) (db b) = true) (hdb : ∀ b H, Dp K H (vb b) (db b)) (hdp : ∀ b, (db b).depth ≤ 1) (hin : ∀ a b, vb a = vb b → a = b) {t : List (Str × β)} (n : (ks t).Nodup) {d : Addr} (h : Ev te σ H (.ref d)) (hd : Rd H d (.dK (en Sum.inr vb t))) :
    EvP (tSrtI K te) σ H (fun p H' => ∃ ts : List Addr, H' p = some (.lst (ts.map V.ref)) ∧ Paired (fun t r => H' t = some (.tup [.str r.1, vb r.2])) ts (rowsBy t)) := by
  intro H0 e0 Q q
  classical
  let ds : Key × V → PyData := fun x => if h : ∃ r : Str × β, x = (Sum.inr r.1, vb r.2) then .tuple [.str h.choose.1, db h.choose.2] else .none
  have hds : ∀ r : Str × β, ds (Sum.inr r.1, vb r.2) = .tuple [.str r.1, db r.2] := fun r => by
    have hx : ∃ r' : Str × β, ((Sum.inr r.1 : Key), vb r.2) = (Sum.inr r'.1, vb r'.2) := ⟨r, rfl⟩
    show (if h : ∃ r' : Str × β, ((Sum.inr r.1 : Key), vb r.2) = (Sum.inr r'.1, vb r'.2) then _ else _) = _
    rw [dif_pos hx]
    have e := hx.choose_spec
    have e1 : r.1 = hx.choose.1 := inr_inj' _ _ (congrArg Prod.fst e)
    have e2 : r.2 = hx.choose.2 := hin _ _ (congrArg Prod.snd e)
    rw [← e1, ← e2]
  have rows : ∀ x ∈ en Sum.inr vb t, ∃ r : Str × β, x = (Sum.inr r.1, vb r.2) := fun x hx => by
    obtain ⟨r, _, rfl⟩ := List.mem_map.mp hx
    exact ⟨r, rfl⟩
  refine h H0 e0 _ fun H1 e1 => ⟨d, en Sum.inr vb t, ds, rfl, ex_rd (e0.trans e1) hd, fun x hx H' tt _ ht => ?_, fun d1 h1 d2 h2 => ?_, .inl fun d1 h1 => ?_, fun x hx => ?_, fun H' p ts e2 hp hL hP => ?_⟩
  · obtain ⟨r, rfl⟩ := rows x hx
    rw [hds]
    exact .tup (st_of ht) (.cons (.str _) (.cons (hdb _ _) .nil))
  · obtain ⟨x, hx, rfl⟩ := List.mem_map.mp h1
    obtain ⟨y, hy, rfl⟩ := List.mem_map.mp h2
    obtain ⟨r, rfl⟩ := rows x hx
    obtain ⟨r2, rfl⟩ := rows y hy
    rw [hds, hds]
    simp [PySem.W.alike, PySem.W.alikeAll, hal]
  · obtain ⟨x, hx, rfl⟩ := List.mem_map.mp h1
    obtain ⟨r, rfl⟩ := rows x hx
    rw [hds]
    exact ⟨_, _, rfl⟩
  · obtain ⟨r, rfl⟩ := rows x hx
    rw [hds]
    have z := hdp r.2
    simp [PyData.depth, PyData.depthAll]
    omega
  · rw [sort_pairs hal ds hds n] at hP
    refine q p H' (fresh_back e1 hp) (e1.trans e2) ⟨ts, hL, ?_⟩
    have go : ∀ {us : List (Str × β)} {ts : List Addr}, Paired (fun t (q : Key × V) => H' t = some (.tup [kV q.1, q.2])) ts (en Sum.inr vb us) → Paired (fun t r => H' t = some (.tup [.str r.1, vb r.2])) ts us := fun {us} => by
      induction us with
      | nil => intro ts h; cases h; exact .nil
      | cons r us ih =>
        intro ts h
        cases h with
        | cons h1 h2 => exact .cons h1 (ih h2)
    exact go hP
end
end Kw


set_option Elab.async false
set_option linter.all false
set_option maxRecDepth 100000
set_option maxHeartbeats 4000000
/-! Env63: what of the module the proofs lean on. -/
namespace Kw
open PySem PySem.Spec PyProof.Rows L2 Evl
structure Md (K : PySem.W.Frag) (mg : Str → Option Value) (base : Heap) where
  b : Blt mg
  C_Store : Addr
  cl_Store : Cls K C_Store
  na_Store_pieces : NoAttr K C_Store "pieces"
  C_Days : Addr
  cl_Days : Cls K C_Days
  na_Days_store : NoAttr K C_Days "store"
  na_Days_times : NoAttr K C_Days "times"
  C_Rule : Addr
  cl_Rule : Cls K C_Rule
  na_Rule_newest : NoAttr K C_Rule "newest"
  na_Rule_days : NoAttr K C_Rule "days"
  na_Rule_weeks : NoAttr K C_Rule "weeks"
  na_Rule_months : NoAttr K C_Rule "months"
  d_check_path : DefAt K mg "check_path" st_check_path ["path"]
  q_check_folder : Addr
  tab_check_folder : Addr
  tb_check_folder : GxR.TabB base mg q_check_folder tab_check_folder
  d_check_folder : DefAtC K mg "check_folder" st_check_folder ["table"] q_check_folder
  d_overs_of : DefAt K mg "overs_of" st_overs_of ["path"]
  d_names_in : DefAt K mg "names_in" st_names_in ["table", "over"]
  d_part_of : DefAt K mg "part_of" st_part_of ["table", "over"]
  d_figure : DefAt K mg "figure" st_figure ["text"]
  emp : Addr
  emp_t : ∀ H, SqT K H emp []
  k_Store : ClassAt K mg C_Store "Store" "Store.__init__" st_Store___init__ ["self", "rows"] [V.ref emp]
  md_Store_put : MethAt K C_Store "put" "Store.put" st_Store_put ["self", "piece"]
  md_Store_get : MethAt K C_Store "get" "Store.get" st_Store_get ["self", "name"]
  md_Store_find : MethAt K C_Store "find" "Store.find" st_Store_find ["self", "piece"]
  md_Store_drop : MethAt K C_Store "drop" "Store.drop" st_Store_drop ["self", "name"]
  md_Store_names : MethAt K C_Store "names" "Store.names" st_Store_names ["self"]
  d_check_bounds : DefAt K mg "check_bounds" st_check_bounds ["least", "most", "window"]
  d_sums : DefAt K mg "sums" st_sums ["text", "window"]
  d_told : DefAt K mg "told" st_told ["text", "least", "most", "window", "by"]
  d_put_text : DefAt K mg "put_text" st_put_text ["store", "text"]
  d_get_text : DefAt K mg "get_text" st_get_text ["store", "name"]
  d_body : DefAt K mg "body" st_body ["store", "name", "kind"]
  d_words_of : DefAt K mg "words_of" st_words_of ["text"]
  d_put_folder : DefAt K mg "put_folder" st_put_folder ["store", "table"]
  d_rows_of : DefAt K mg "rows_of" st_rows_of ["store", "name"]
  d_get_folder : DefAt K mg "get_folder" st_get_folder ["store", "name"]
  d_needs : DefAt K mg "needs" st_needs ["store", "name"]
  k_Days : ClassAt K mg C_Days "Days" "Days.__init__" st_Days___init__ ["self"] []
  md_Days_keep : MethAt K C_Days "keep" "Days.keep" st_Days_keep ["self", "time", "table"]
  md_Days_give : MethAt K C_Days "give" "Days.give" st_Days_give ["self", "time"]
  md_Days_last_at : MethAt K C_Days "last_at" "Days.last_at" st_Days_last_at ["self", "time"]
  md_Days_forget : MethAt K C_Days "forget" "Days.forget" st_Days_forget ["self", "times"]
  md_Days_needed : MethAt K C_Days "needed" "Days.needed" st_Days_needed ["self"]
  md_Days_sweep : MethAt K C_Days "sweep" "Days.sweep" st_Days_sweep ["self"]
  md_Days_hurt : MethAt K C_Days "hurt" "Days.hurt" st_Days_hurt ["self"]
  k_Rule : ClassAt K mg C_Rule "Rule" "Rule.__init__" st_Rule___init__ ["self", "last", "days", "weeks", "months"] []
  md_Rule_parts : MethAt K C_Rule "parts" "Rule.parts" st_Rule_parts ["self"]
  md_Rule_stays : MethAt K C_Rule "stays" "Rule.stays" st_Rule_stays ["self", "times"]
  md_Rule_goes : MethAt K C_Rule "goes" "Rule.goes" st_Rule_goes ["self", "times"]
  d_law_dice : DefAt K mg "_law_dice" st_law_dice ["cell"]
  d_law_roll : DefAt K mg "_law_roll" st_law_roll ["dice", "many"]
  d_law_rounds : DefAt K mg "_law_rounds" st_law_rounds ["script", "most"]
  d_law_told : DefAt K mg "_law_told" st_law_told ["what"]
  d_law_text : DefAt K mg "_law_text" st_law_text ["dice"]
  d_law_paths : DefAt K mg "_law_paths" st_law_paths []
  d_law_next : DefAt K mg "_law_next" st_law_next ["dice", "table"]
  d_law_cut : DefAt K mg "_law_cut" st_law_cut ["text"]
  d_law_inner : DefAt K mg "_law_inner" st_law_inner ["table"]
  d_law_goes : DefAt K mg "_law_goes" st_law_goes ["counts", "times"]
  d_law_swept : DefAt K mg "_law_swept" st_law_swept ["days", "kept"]
  q_law_given : Addr
  tab_law_given : Addr
  tb_law_given : LamX.TabB base mg q_law_given tab_law_given
  d_law_given : DefAtC K mg "_law_given" st_law_given ["dice", "days", "kept"] q_law_given
  d_law_hurt : DefAt K mg "_law_hurt" st_law_hurt ["dice", "days", "kept"]
  d_law : DefAt K mg "law" st_law ["script"]
  c_SIGNS : ∃ u, mg "SIGNS" = some u ∧ RelV (.str "abcdefghijklmnopqrstuvwxyz0123456789._-") u
  c_BASE : ∃ u, mg "BASE" = some u ∧ RelV (.int 257) u
  c_WIDE : ∃ u, mg "WIDE" = some u ∧ RelV (.int 1000003) u
  a_BOUNDS : Addr
  c_BOUNDS : ∃ u, mg "BOUNDS" = some u ∧ RelV (.ref a_BOUNDS) u
  t_BOUNDS : ∀ H, SqT K H a_BOUNDS [.int 4, .int 12, .int 3, .int 5]
  c_DAY : ∃ u, mg "DAY" = some u ∧ RelV (.int 24) u
  c_WEEK : ∃ u, mg "WEEK" = some u ∧ RelV (.int 168) u
  c_MONTH : ∃ u, mg "MONTH" = some u ∧ RelV (.int 672) u
  NoSuch : Addr
  g_NoSuch : mg "NoSuch" = some (.ref NoSuch)
  x_NoSuch : PySem.W.excIn K NoSuch [.type "ValueError", .type "Exception", .type "BaseException", .type "object"] "ValueError.__new__" = true
  kp_NoSuch : PySem.W.keepIn K (.ref NoSuch) = true
  b_NoSuch : PySem.W.subIn K (.ref NoSuch) (.type "BaseException") = some true
  t_NoSuch : PySem.W.typeIn K (.ref NoSuch) = some (.type "type")
  i_NoSuch : PySem.W.isClsIn K NoSuch = true
  BadPiece : Addr
  g_BadPiece : mg "BadPiece" = some (.ref BadPiece)
  Lost : Addr
  g_Lost : mg "Lost" = some (.ref Lost)
  xm_hurt : PySem.W.exmAny K (.ref NoSuch) [.ref NoSuch, .ref BadPiece] = some true
  xm_told : PySem.W.exmAny K (.ref NoSuch) [.ref Lost, .ref NoSuch] = some true
  s_NoSuch : PySem.W.subIn K (.ref NoSuch) (.ref NoSuch) = some true
abbrev Md.P0 {K : PySem.W.Frag} {mg : Str → Option Value} {base : Heap} (T : Md K mg base) : Addr := T.tab_check_folder
end Kw


set_option Elab.async false
set_option linter.all false
set_option maxRecDepth 100000
set_option maxHeartbeats 4000000
/-! KwZ: dicts compared; the greatest key; texts turned round; dict(zip(..)). -/
namespace Kw
open PySem PySem.Spec PyProof.Rows L2 Evl
/-! ### dicts of texts against each other -/
def sameT (ks ls : List (Key × V)) : Bool := (ks.length == ls.length) && ks.all fun p => decide (valV ls p.1 = some p.2)
section
variable {X : Cx}
theorem hits_of (A : Around) (s : Shared) {ls : List (Key × V)} {vb : List (Key × Value)} (rb : KV ls vb) : ∀ {ks : List (Key × V)} {va : List (Key × Value)}, KV ks va → (∀ p ∈ ks, (∃ z, p.2 = V.str z) ∧ ∀ y, valV ls p.1 = some y → ∃ z, y = V.str z) → PySem.W.KeqHits A s vb va (ks.all fun p => decide (valV ls p.1 = some p.2))
  | _, _, .nil, _ => .nil
  | p :: ks, (k, v) :: va, .cons h t, hf => by
    obtain ⟨e, r⟩ := h
    obtain ⟨⟨z, hz⟩, hy⟩ := hf p (List.mem_cons_self ..)
    have ih := hits_of A s rb t fun q hq => hf q (List.mem_cons_of_mem _ hq)
    rw [List.all_cons]
    have rv := rb.val p.1
    obtain ⟨pk, pv⟩ := p
    have e' : pk = k := e
    subst e'
    have hz' : pv = V.str z := hz
    subst hz'
    obtain ⟨t1, rfl⟩ := (show ∃ t, v = Value.str z t from r)
    cases ey : valV ls pk with
    | none =>
      have hn : valueAt vb pk = none := by
        rw [show valV ls pk = none from ey] at rv
        cases g : valueAt vb pk with
        | none => rfl
        | some u => rw [g] at rv; exact rv.elim
      rw [show decide ((none : Option V) = some (V.str z)) = false from by simp, Bool.false_and]
      exact .miss hn
    | some y =>
      obtain ⟨z2, rfl⟩ := hy y ey
      obtain ⟨u, hu, ru⟩ : ∃ u, valueAt vb pk = some u ∧ RelV (.str z2) u := by
        rw [show valV ls pk = some (V.str z2) from ey] at rv
        cases g : valueAt vb pk with
        | none => rw [g] at rv; exact rv.elim
        | some u => rw [g] at rv; exact ⟨u, rfl, rv⟩
      obtain ⟨t2, rfl⟩ := (show ∃ t, u = Value.str z2 t from ru)
      have e2 : decide (some (V.str z2) = some (V.str z)) = (z == z2) := by
        by_cases c : z = z2
        · subst c; simp
        · rw [beq_false_of_ne c]
          exact decide_eq_false fun w => c (by injection w with w; injection w with w; exact w.symm)
      rw [e2]
      exact .hit hu (SeqAt.EqAt.str_str z t1 z2 t2) ih
def rEqM : R2 := fun x y H Q => ∃ a b ks ls, x = .ref a ∧ y = .ref b ∧ Rd H a (.dK ks) ∧ Rd H b (.dK ls) ∧ (ks.length = ls.length → ∀ p ∈ ks, (∃ z, p.2 = V.str z) ∧ ∀ y, valV ls p.1 = some y → ∃ z, y = V.str z) ∧ Q (.bl (sameT ks ls)) H
def rNeM : R2 := fun x y H Q => ∃ a b ks ls, x = .ref a ∧ y = .ref b ∧ Rd H a (.dK ks) ∧ Rd H b (.dK ls) ∧ (ks.length = ls.length → ∀ p ∈ ks, (∃ z, p.2 = V.str z) ∧ ∀ y, valV ls p.1 = some y → ∃ z, y = V.str z) ∧ Q (.bl (!sameT ks ls)) H
theorem len_eqb {a b c d : Nat} (h1 : a = c) (h2 : b = d) : (a == b) = (c == d) := by rw [h1, h2]
theorem op_eqM (hu : X.A.units + 64 < cLine) : OpR X (compareOp .Eq) rEqM := by
  intro pins s σ H x y v u Q I rx ry ⟨a, b, ks, ls, hx, hy, ea, eb, hf, q⟩
  subst hx hy
  obtain rfl : v = Value.ref a := rx
  obtain rfl : u = Value.ref b := ry
  obtain ⟨_, ya, va, ra, da⟩ := dk_rd I.hok ea
  obtain ⟨_, yb, vb, rb, db⟩ := dk_rd I.hok eb
  refine PySem.W.keq_eq (knd := mixKind X.prog X.w) (r := ks.all fun p => decide (valV ls p.1 = some p.2)) ya yb da db (by omega) (fun hl => hits_of _ _ rb ra (hf (by rw [ra.length, rb.length]; exact hl))) (fin_bl I q ?_)
  show ((ks.length == ls.length) && _) = _
  rw [len_eqb ra.length rb.length]
theorem op_neM (hu : X.A.units + 64 < cLine) : OpR X (compareOp .NotEq) rNeM := by
  intro pins s σ H x y v u Q I rx ry ⟨a, b, ks, ls, hx, hy, ea, eb, hf, q⟩
  subst hx hy
  obtain rfl : v = Value.ref a := rx
  obtain rfl : u = Value.ref b := ry
  obtain ⟨_, ya, va, ra, da⟩ := dk_rd I.hok ea
  obtain ⟨_, yb, vb, rb, db⟩ := dk_rd I.hok eb
  refine PySem.W.keq_ne (knd := mixKind X.prog X.w) (r := ks.all fun p => decide (valV ls p.1 = some p.2)) ya yb da db (by omega) (fun hl => hits_of _ _ rb ra (hf (by rw [ra.length, rb.length]; exact hl))) (fin_bl I q ?_)
  show (!((ks.length == ls.length) && _)) = _
  rw [len_eqb ra.length rb.length]
end
/-! ### the greatest key of a dict of ints -/
section
variable {X : Cx} {e : Expr} {es : List Expr} {t : TA} {p pos : Pos}
def rMaxD : List V → Hp → VK → Prop := fun xs H Q => ∃ (d : Addr) (kvs : List (Key × V)) (ns : List Int), xs = [.ref d] ∧ Rd H d (.dK kvs) ∧ kvs.map (·.1) = ns.map Sum.inl ∧ 0 < ns.length ∧ ∀ m, m ∈ ns → (∀ a ∈ ns, a ≤ m) → Q (.int m) H
theorem call_maxD (hc : X.calm = true) : CallR X (.builtin "max") rMaxD := by
  intro pins s σ H xs us Q I r ⟨d, kvs, ns, hxs, hd, hk, hne, q⟩
  subst hxs
  obtain ⟨u, rfl, ru⟩ := vals1 r
  cases ru
  obtain ⟨_, lo, vs, rel, dd⟩ := dk_rd I.hok hd
  obtain ⟨ep, hat⟩ := dd.dictAt
  have hvl : vs.length = ns.length := by
    have g := congrArg List.length hk
    rw [List.length_map, List.length_map] at g
    rw [← rel.length]; exact g
  have hkey : ∀ i k x, vs[i]? = some (k, x) → ns[i]? = some (ns.getD i 0) ∧ k = Sum.inl (ns.getD i 0) := fun i k x hi => by
    have g : (vs.map (·.1))[i]? = some k := by rw [List.getElem?_map, hi]; rfl
    rw [← rel.keys, hk, List.getElem?_map] at g
    cases en : ns[i]? with
    | none => rw [en] at g; cases g
    | some n => rw [en] at g; cases g; rw [List.getD_eq_getElem?_getD, en]; exact ⟨rfl, rfl⟩
  refine PySem.call_max_walk (wpAny_pyIter_dict lo hat ?_)
  have hdl : d < s.heap.objs.size := let ⟨_, _, ho, _⟩ := hat; Heap.lt_size ho
  refine ⟨s.heap.objs.size, [s.heap.objs.size, d], [s.heap.objs.size], vs.length, _, _, _, rfl, Walks.dictKeys (A := X.A.in1) (knd := mixKind X.prog X.w) (I.ok.hd hc) s.heap.objs.size d (Nat.ne_of_lt hdl) vs ep, ⟨⟨_, Heap.get?_push_size _ rfl, rfl, rfl⟩, hat.push _⟩, fun b hb => ?_, by omega,
    CmpOf.ints_gt (fun i => ns.getD i 0) (fun i v hv => ?_), fun v h' tk hv hk2 => ?_⟩
  · show b < (s.heap.push _).objs.size
    rw [Heap.size_push]
    rcases List.mem_cons.mp hb with rfl | hb
    · exact Nat.lt_succ_self _
    · rw [List.mem_singleton.mp hb]; exact Nat.lt_succ_of_lt hdl
  · obtain ⟨k, x, hi, hkv⟩ := hv
    obtain ⟨_, rfl⟩ := hkey i k x hi
    exact Value.isInt_shape hkv
  · obtain ⟨k, x, hi, hkv⟩ := hv
    obtain ⟨hm, rfl⟩ := hkey _ k x hi
    obtain ⟨t, rfl⟩ := Value.isInt_shape hkv
    obtain ⟨_, g2⟩ := argBest_gt (fun i => ns.getD i 0) (vs.length - 1)
    refine ⟨.int _, H, I.kept (t' := tk) (fun b o e => hk2 b o (fun z => ?_) (Heap.get?_push_of_some _ e)), ⟨t, rfl⟩, q _ (List.mem_of_getElem? hm) fun a ha => ?_⟩
    · exact Nat.lt_irrefl _ ((List.mem_singleton.mp z) ▸ Heap.lt_size e)
    · obtain ⟨j, hj, rfl⟩ := List.getElem_of_mem ha
      have g3 := g2 j (by omega)
      rw [List.getD_eq_getElem?_getD, List.getElem?_eq_getElem hj] at g3
      exact g3
theorem b_maxD (B : Blt X.mg) (ha : PA X (e :: es) t) (hc : X.calm = true := by rfl) (hg : Gl X "max" := by rfl) (he : SE X e es := by rfl) (hp : SP0 X pos es := by rfl) : PE X (.Call (.Name "max" p) (e :: es) [] pos) (tCB rMaxD t) :=
  pe_callB (call_maxD hc) hg B.max (by decide +kernel) ha (by decide) (by decide) he hp
end
/-! ### text[::-1]: some text as long -/
section
variable {X : Cx} {e : Expr} {te : TE} {k : Nat} {p1 p2 p3 pos : Pos}
def tRevS (te : TE) : TE := fun σ H Q => te σ H fun x H1 => ∃ a, x = .str a ∧ a.length ≤ sizeLine ∧ ∀ b : Str, b.length = a.length → Q (.str b) H1
theorem pe_revS (he : PE X e te) : PE X (.Subscript e (.Slice none none (some (.UnaryOp .USub (.Constant (.int 1) k p1) p2)) p3) pos) (tRevS te) := by
  refine ⟨fun pins s σ H Q I h => Subscript_ (thn (he.run pins s σ H _ I h) fun v s1 ⟨x, H1, I1, rx, a, ea, hz, q⟩ => ?_)⟩
  subst ea
  obtain ⟨t, rfl⟩ := (show ∃ t, v = Value.str a t from rx)
  have stp : PO X (some (.UnaryOp .USub (.Constant (.int 1) k p1) p2)) (tPart (tUn (rU fun i => .int (-i)) (tC (.int 1)))) := po_some (L2.pe_un un_neg pe_int)
  refine wpAny_Slice (thn (po_none.run pins s1 σ H1 (fun o H2 => o = none ∧ H2 = H1) I1 ⟨rfl, rfl⟩) fun vl s2 ⟨l, H2, I2, pl, el, e2⟩ => ?_)
  subst el e2
  refine thn (po_none.run pins s2 σ H2 (fun o H3 => o = none ∧ H3 = H2) I2 ⟨rfl, rfl⟩) fun vu s3 ⟨u, H3, I3, pu, eu, e3⟩ => ?_
  subst eu e3
  refine thn (stp.run pins s3 σ H3 (fun o H4 => o = some (-1) ∧ H4 = H3) I3 ⟨1, rfl, -1, rfl, rfl, rfl⟩) fun vs s4 ⟨o, H4, I4, ps, eo, e4⟩ => ?_
  subst eo e4
  have J : Inv X pins σ H4 { s4 with heap := s4.heap.push { cls := .type "slice", data := .fields #[vl, vu, vs] } } := I4.kept (t' := s4.toks) fun b ob g => Heap.get?_push_of_some _ g
  show wpAny (model X.prog X.w) X.A (subscriptTail e (.Slice none none (some (.UnaryOp .USub (.Constant (.int 1) k p1) p2)) p3) (.str a t) (.ref s4.heap.objs.size)) (EP X pins σ Q) X.xe { s4 with heap := s4.heap.push { cls := .type "slice", data := .fields #[vl, vu, vs] } }
  refine tail_any (ops := [.str a t, .ref s4.heap.objs.size]) (typeIs_str _ _ _) PySem.F.slot_str_getitem.lookup ?_ (by with_unfolding_all rfl)
  obtain ⟨l0, rfl, hl0⟩ := IsPart.raw pl
  obtain ⟨u0, rfl, hu0⟩ := IsPart.raw pu
  obtain ⟨p0, rfl, hp0⟩ := IsPart.raw ps
  have hl1 : l0 = none := by cases l0 with | none => rfl | some w => cases hl0
  have hu1 : u0 = none := by cases u0 with | none => rfl | some w => cases hu0
  subst hl1 hu1
  obtain ⟨m, tm, rfl⟩ : ∃ m tm, p0 = some (m, tm) := by cases p0 with | none => cases hp0 | some w => exact ⟨w.1, w.2, rfl⟩
  have hm : m = -1 := by cases hp0; rfl
  subst hm
  refine wpAny_getItem_str_slice (l := none) (u := none) (st := some (-1, tm)) ⟨_, Heap.get?_push_size _ rfl, rfl, rfl⟩ rfl ?_
  have e1 : sliceMade a t none none (some (-1, tm)) = Made.str ⟨((slicePicked a none none (some (-1, tm))).filterMap (a.cps[·]?)).toArray⟩ := by
    unfold sliceMade
    rw [if_neg (by simp)]
  have e2 : (⟨((slicePicked a none none (some (-1, tm))).filterMap (a.cps[·]?)).toArray⟩ : Str).length = a.length := by
    show ((slicePicked a none none (some (-1, tm))).filterMap (a.cps[·]?)).toArray.size = a.length
    unfold slicePicked
    show ((Builtin.Str.strSliceIndices none none (-1) a.length).filterMap (a.cps[·]?)).toArray.size = a.length
    rw [List.size_toArray, PyProof.Rows.picked_rev, PyProof.Rows.filterMap_get]
    · simp
    · intro i hi
      obtain ⟨j, hj, rfl⟩ := List.mem_map.mp hi
      have hj' := List.mem_range.mp hj
      show a.length - 1 - j < a.length
      omega
  rw [e1]
  exact ⟨by rw [e2]; exact hz, .str _, H4, J.tok _, ⟨_, rfl⟩, q _ e2⟩
end
/-! ### dict(zip(a, b)) of two lists -/
section
variable {X : Cx} {e e2 : Expr} {ta : TA} {p p2 pos pos2 : Pos}
def tDictZip (K : PySem.W.Frag) (ta : TA) : TE := fun σ H Q => ta σ H fun vs H1 => ∃ (a b : Addr) (ks : List Key) (ys : List V), vs = [.ref a, .ref b] ∧ SqL K H1 a (ks.map kV) ∧ SqL K H1 b ys ∧ ∀ p, H1 p = none → Q (.ref p) (upd H1 p (.dK (mergeK [] (ks.zip ys))))
theorem kv_zip : ∀ (ks : List Key) {ys : List V} {us : List Value}, Vals ys us → KV (ks.zip ys) (ks.zip us)
  | [], _, _, _ => .nil
  | _ :: _, _, _, .nil => .nil
  | k :: ks, _, _, .cons h t => .cons ⟨rfl, h⟩ (kv_zip ks t)
theorem pe_dictzip (B : Blt X.mg) (ha : PA X [e, e2] ta) (hc : X.calm = true := by rfl) (hg : Gl X "dict" := by rfl) (hg2 : Gl X "zip" := by rfl)
    (he : starEach [.Call (.Name "zip" p2) [e, e2] [] pos2] X.env = (false, eval (.Call (.Name "zip" p2) [e, e2] [] pos2) X.env) :: starEach [] X.env := by rfl)
    (hs : starEach [e, e2] X.env = (false, eval e X.env) :: starEach [e2] X.env := by rfl) (hpl : (backTo pos2 (starEach [e2] X.env)).any (·.1) = false := by rfl) :
    PE X (.Call (.Name "dict" p) [.Call (.Name "zip" p2) [e, e2] [] pos2] [] pos) (tDictZip X.K ta) := by
  refine ⟨fun pins s σ H Q I h => ?_⟩
  refine Call_ (ld_blt (u := .type "dict") I hg B.dict (by decide +kernel) (PyProof.Rows.callWith_type1 ?_ he (by rfl)))
  rw [he]
  show wpAny _ _ (spliced ((false, eval (.Call (.Name "zip" p2) [e, e2] [] pos2) X.env) :: backTo pos (starEach [] X.env))) _ _ s
  refine Calls.spliced_cons (Call_ (ld_blt I hg2 B.zip PyProof.Rows.boot_zip (PyProof.Rows.callWith_type1 (thn (ha.run pos2 pins s σ H _ I h) fun us s1 ⟨vs, H1, I1, r1, a, b, ks, ys, ev, ha1, hb1, q⟩ => ?_) hs hpl)))
  subst ev
  cases r1 with
  | cons r rr =>
    cases rr with
    | cons r' rr =>
      cases rr
      cases r
      cases r'
      obtain ⟨its, rv, p1, z1⟩ := I1.list ha1
      obtain ⟨its2, rv2, p2', z2⟩ := I1.list hb1
      have la := p1.lt
      have lb := p2'.lt
      refine call_zip_2 p1.isList p2'.isList fun h' hz hTI hTO h1 h2 hsz hk => Calls.spliced_nil ?_
      have D := PySem.W.ktu_apart s1.heap.objs.size a b la lb
      have P := PairArg.zip (prog := X.prog) (w := X.w) _ _ _ _ _ _ _ D its.toArray its2.toArray
      have hok : IsZip h' (s1.heap.objs.size + 4) (s1.heap.objs.size + 2) (s1.heap.objs.size + 3) .none ∧ IsPair h' (s1.heap.objs.size + 2) (.ref s1.heap.objs.size) (.ref (s1.heap.objs.size + 1)) ∧ (∃ a b, IsPair h' (s1.heap.objs.size + 3) a b) ∧ h'.IsListIter s1.heap.objs.size a 0 ∧ h'.IsListIter (s1.heap.objs.size + 1) b 0 ∧ h'.IsList a its.toArray ∧ h'.IsList b its2.toArray :=
        ⟨hz, hTI, ⟨_, _, hTO⟩, h1, h2, p1.isList.at fun o e => hk _ o e, p2'.isList.at fun o e => hk _ o e⟩
      have hl1 : ks.length = its.length := by have g := rv.length; rw [List.length_map] at g; exact g
      refine PySem.call_dict_pairs (knd := mixKind X.prog X.w) (kvs := ks.zip its2) P (I.ok.hd hc) hok ⟨?_, fun i key v hr => ?_⟩ ?_ fun h'' tk hd'' hk2 => ?_
      · rw [List.length_zip, List.size_toArray, List.size_toArray, hl1]
      · obtain ⟨g1, g2⟩ := hr
        rw [List.getElem?_toArray] at g1 g2
        have hi : i < ks.length := by rw [hl1]; exact (List.getElem?_eq_some_iff.mp g1).1
        refine ⟨ks[i], ?_, ?_⟩
        · rw [List.getElem?_zip_eq_some]
          exact ⟨List.getElem?_eq_getElem hi, g2⟩
        · obtain ⟨u, hu, ru⟩ := rv.get (i := i) (x := kV ks[i]) (by rw [List.getElem?_map, List.getElem?_eq_getElem hi]; rfl)
          rw [g1] at hu
          cases hu
          exact kV_is ru
      · rw [List.size_toArray, List.size_toArray]
        refine Nat.le_trans (Nat.min_le_left _ _) ?_
        rw [← hl1]
        rw [List.length_map] at z1
        exact z1
      · have hm : (h'.objs.size == sysModules) = false := beq_eq_false_iff_ne.mpr (Nat.ne_of_gt (Nat.lt_of_lt_of_le I1.big (by rw [hsz]; exact Nat.le_add_right _ _)))
        have kp : ∀ b o, s1.heap.get? b = some o → h''.get? b = some o := fun b o e => hk2 b o (fun z => ?_) (hk b o e)
        · have hlen : (mergeK [] (ks.zip ys)).length ≤ sizeLine := by
            refine Nat.le_trans (length_mergeK _ []) ?_
            rw [List.length_nil, Nat.zero_add, List.length_zip]
            rw [List.length_map] at z1
            exact Nat.le_trans (Nat.min_le_left _ _) z1
          exact ⟨.ref h'.objs.size, upd H1 h'.objs.size (.dK (mergeK [] (ks.zip ys))), I1.laid (t' := tk) kp (by rw [hsz]; exact Nat.le_add_right _ _) (show ObjOk X.prog X.w _ _ _ (.dK _) from ⟨hlen, hm, merged [] (ks.zip its2), KV.merge (kv_zip ks rv2) .nil, hd''⟩), rfl, q _ (I1.hok.fresh (by rw [hsz]; exact Nat.le_add_right _ _))⟩
        · have hl := Heap.lt_size e
          have e' : b = s1.heap.objs.size + 4 ∨ b = s1.heap.objs.size + 3 ∨ b = s1.heap.objs.size ∨ b = s1.heap.objs.size + 1 := by simpa using z
          rcases e' with z | z | z | z <;> rw [z] at hl
          · exact absurd hl (Nat.not_lt.mpr (Nat.le_add_right _ _))
          · exact absurd hl (Nat.not_lt.mpr (Nat.le_add_right _ _))
          · exact Nat.lt_irrefl _ hl
          · exact absurd hl (Nat.not_lt.mpr (Nat.le_add_right _ _))
end
end Kw


set_option Elab.async false
set_option linter.all false
set_option maxRecDepth 100000
set_option maxHeartbeats 4000000
/-! KwA: any of a generator expression: x in d for x in texts. -/
namespace Kw
open PySem PySem.Spec PyProof.Rows L2 Evl
theorem any_getD (l : List Bool) : (List.range l.length).any (fun j => l.getD j false) = l.any id := by
  rw [Bool.eq_iff_iff, List.any_eq_true, List.any_eq_true]
  constructor
  · rintro ⟨j, hj, h⟩
    rw [List.getD_eq_getElem?_getD, List.getElem?_eq_getElem (List.mem_range.mp hj)] at h
    exact ⟨_, List.getElem_mem _, h⟩
  · rintro ⟨b, hb, h⟩
    obtain ⟨j, hj, e⟩ := List.getElem_of_mem hb
    exact ⟨j, List.mem_range.mpr hj, by rw [List.getD_eq_getElem?_getD, List.getElem?_eq_getElem hj, e]; exact h⟩
section
variable {X : Cx} {P : Addr} {σ : L2.St}
theorem elm_in {scope : Scope} {x y : Str} {i : Nat} {d : Addr} {H1 : Hp} {kvs : List (Key × V)} {ys : List Str} {p1 p2 p3 : Pos} (hu : X.A.units + 16 < cLine) (hgs : gsB X.env.scope scope x = true) (hP : Tab P H1) (hN : X.N[i]? = some y) (hf : scope.names.lookup y = some .free) (hσ : σ[i]? = some (some (.ref d))) (hd : Rd H1 d (.dK kvs))
    (h1 : (x == ("__debug__" : Str)) = false) (h2 : (y == ("__debug__" : Str)) = false) (h3 : (y == ("__classdict__" : Str)) = false) :
    Elm X P scope x (.Compare (.Name x p1) [.In] [.Name y p2] p3) σ H1 (GV (ys.map V.str)) (fun j v => v = .bool ((ys.map fun y => (valV kvs (.inr y)).isSome).getD j false)) := by
  intro pins s1 ce A' Er j v s2 m2 I hsc hcl hgl hbl hA hAu kp hG hn hm
  have S : GxR.GenS X.env scope x := genS_of I.ok rfl hgs
  obtain ⟨z, hz, rz⟩ := hG
  rw [List.getElem?_map] at hz
  cases ez : ys[j]? with
  | none => rw [ez] at hz; cases hz
  | some b =>
  rw [ez] at hz
  cases hz
  obtain ⟨t, rfl⟩ := (show ∃ t, v = Value.str b t from rz)
  have hv : X.env.scope.names.lookup y = some .cell ∨ X.env.scope.names.lookup y = some .free := by
    have g := hgs
    unfold gsB at g
    simp only [Bool.and_eq_true, decide_eq_true_eq, List.all_eq_true, Bool.or_eq_true] at g
    rcases g.2 (y, .free) (PySem.mem_of_lookup hf) with (q | q) | q
    · exact absurd rfl q
    · exact .inl q
    · exact .inr q
  refine wpAny_Compare1 (wpAny_Name (wpAny_loadName_local (by rw [hsc]; exact S.kind) (by unfold Env.kindOf; rw [hsc]; exact S.loc) hn hm ?_) h1) rfl
  refine elm_name I hsc hcl S.kind S.free hP kp hN hv hf hσ h2 h3 fun u ru => ?_
  obtain rfl : u = Value.ref d := ru
  obtain ⟨_, hd0, vs, rel, dd⟩ := dk_rd I.hok hd
  have dP : d ≠ P := fun q => by
    subst q
    rcases hd with g | ⟨o, g⟩ <;> rw [show H1 d = some (.ext (tabF d)) from hP] at g <;> cases g
  have dd2 : s2.heap.DictOf (mixKind X.prog X.w) d vs := let ⟨o, es, ep, ho, r⟩ := dd; ⟨o, es, ep, kp d o dP ho, r⟩
  refine wpAny_in_of (k := Sum.inr b) (keyIs_str b t) hd0 dd2.mapOf ⟨?_, s2.heap, s2.toks + 1, rfl, fun _ _ e => e⟩
  rw [← (rel.val (Sum.inr b)).isSome_eq]
  congr 1
  rw [List.getD_eq_getElem?_getD, List.getElem?_map, ez]
  rfl
/-- any(x in d for x in e): e a tuple of texts -/
def tAnyIn (K : PySem.W.Frag) (P : Addr) (te td : TE) : TE := fun σ H Q => te σ H fun v H1 => td σ H1 fun w H2 => H1 = H2 ∧ ∃ (a : Addr) (ys : List Str) (d : Addr) (kvs : List (Key × V)), v = .ref a ∧ SqT K H2 a (ys.map V.str) ∧ w = .ref d ∧ Rd H2 d (.dK kvs) ∧ Tab P H2 ∧
  Q (.bl (ys.any fun y => (valV kvs (.inr y)).isSome)) H2
theorem ev_anyIn {K : PySem.W.Frag} {d : Addr} {H : Hp} {te : TE} {i : Nat} {ys : List Str} {kvs : List (Key × V)} (h1 : EvN te σ H (.tup (ys.map V.str))) (h2 : σ[i]? = some (some (.ref d))) (hd : Rd H d (.dK kvs)) (ht : Tab P H) :
    Ev (tAnyIn K P te (tVar i)) σ H (.bl (ys.any fun y => (valV kvs (.inr y)).isSome)) := fun H1 e Q q =>
  h1 H1 e _ fun a H2 _ e2 ha => ⟨.ref d, h2, rfl, a, ys, d, kvs, rfl, st_of ha, rfl, ex_rd (e.trans e2) hd, ht.ex (e.trans e2), q H2 e2⟩
theorem pe_anyIn {c : Addr} {i k : Nat} {iter : Expr} {te : TE} {x y : Str} {px p pos gpos p1 p2 p3 : Pos} {scope : Scope} (hr : Room k X.A) (B : Blt X.mg) (TB : GxR.TabB X.base X.mg c P) (hcode : X.env.code = .ref c) (hgs : gsB X.env.scope scope x = true) (hf : scope.names.lookup y = some .free) (hi : PE X iter te) (hN : X.N[i]? = some y := by rfl)
    (hs : ∀ v, genFold iter X.env v = pure v := by intro _; rfl) (hg : Gl X "any" := by rfl)
    (he : starEach [.GeneratorExp (.Compare (.Name x p1) [.In] [.Name y p2] p3) [⟨.Name x px, iter, [], 0⟩] scope gpos] X.env = (false, eval (.GeneratorExp (.Compare (.Name x p1) [.In] [.Name y p2] p3) [⟨.Name x px, iter, [], 0⟩] scope gpos) X.env) :: starEach [] X.env := by rfl)
    (h1 : (x == ("__debug__" : Str)) = false := by decide) (h2 : (y == ("__debug__" : Str)) = false := by decide) (h3 : (y == ("__classdict__" : Str)) = false := by decide) :
    PE X (.Call (.Name "any" p) [.GeneratorExp (.Compare (.Name x p1) [.In] [.Name y p2] p3) [⟨.Name x px, iter, [], 0⟩] scope gpos] [] pos) (tAnyIn X.K P te (tVar i)) := by
  have hu : X.A.units + 16 < cLine := Nat.lt_of_le_of_lt (by omega) (hu64_of hr)
  refine pe_anyG (elt := .Compare (.Name x p1) [.In] [.Name y p2] p3) (fun σ Q v H1 => tVar i σ H1 fun w H2 => H1 = H2 ∧ ∃ (a : Addr) (ys : List Str) (d : Addr) (kvs : List (Key × V)), v = .ref a ∧ SqT X.K H2 a (ys.map V.str) ∧ w = .ref d ∧ Rd H2 d (.dK kvs) ∧ Tab P H2 ∧ Q (.bl (ys.any fun y => (valV kvs (.inr y)).isSome)) H2) hr B TB hcode hgs hi ?_ hs hg he
  rintro σ Q v H1 ⟨w, hσ, _, a, ys, d, kvs, rfl, ha, rfl, hd, hP, q⟩
  refine ⟨hP, _, _, _, src_tup hP ha, elm_in hu hgs hP hN hf hσ hd h1 h2 h3, ?_⟩
  have e : (List.range (ys.map V.str).length).any (fun j => (ys.map fun y => (valV kvs (.inr y)).isSome).getD j false) = ys.any fun y => (valV kvs (.inr y)).isSome := by
    rw [List.length_map]
    have z := any_getD (ys.map fun y => (valV kvs (.inr y)).isSome)
    rw [List.length_map, List.any_map] at z
    exact z
  rw [e]
  exact q
end
end Kw


set_option Elab.async false
set_option linter.all false
set_option maxRecDepth 100000
set_option maxHeartbeats 4000000
/-! KwX: heaps that stay but for some; calls that may raise within a try. -/
namespace Kw
open PySem PySem.Spec PyProof.Rows L2 Evl
/-- all but those at ds stays -/
def Exs (ds : List Addr) (H H' : Hp) : Prop := ∀ a o, a ∉ ds → H a = some o → H' a = some o
section
variable {ds es : List Addr} {H H1 H' : Hp}
theorem exs_of (e : Ex H H') : Exs ds H H' := fun a o _ h => e a o h
theorem Exs.refl (ds : List Addr) (H : Hp) : Exs ds H H := fun _ _ _ h => h
theorem Exs.trans (a : Exs ds H H1) (b : Exs ds H1 H') : Exs ds H H' := fun x o n h => b x o n (a x o n h)
theorem Exs.then (a : Exs ds H H1) (b : Ex H1 H') : Exs ds H H' := a.trans (exs_of b)
theorem Exs.mono (a : Exs ds H H') (h : ∀ x ∈ ds, x ∈ es) : Exs es H H' := fun x o n g => a x o (fun z => n (h x z)) g
theorem exs_b {d : Addr} (e : Exb d H H') (h : d ∈ ds) : Exs ds H H' := fun a o n g => e a o (fun z => n (z ▸ h)) g
theorem exs_upd {d : Addr} {o : HO} (e : Exs ds H H1) (h : d ∈ ds) : Exs ds H (upd H1 d o) := fun a u n g => by rw [upd_ne (fun (z : a = d) => n (by rw [z]; exact h))]; exact e a u n g
/-- what was not there may have changed -/
theorem Exs.cut (a : Exs (ds ++ es) H H') (h : ∀ x ∈ es, H x = none) : Exs ds H H' := fun x o n g => a x o (fun z => (List.mem_append.mp z).elim n fun y => by rw [h x y] at g; cases g) g
theorem Exs.ex (a : Exs ds H H') (h : ∀ x ∈ ds, H x = none) : Ex H H' := fun x o g => a x o (fun z => by rw [h x z] at g; cases g) g
theorem Exs.none (a : Exs ds H H') {x : Addr} (n : x ∉ ds) (h : H' x = none) : H x = none := by
  cases e : H x with
  | none => rfl
  | some o => rw [a x o n e] at h; cases h
/-- what is read stays read, if no list and no dict of those changes -/
theorem Exs.rd (a : Exs ds H H') {x : Addr} {u : HO} (n : x ∉ ds) (h : Rd H x u) : Rd H' x u := by
  rcases h with h | ⟨o, h⟩
  · exact .inl (a _ _ n h)
  · exact .inr ⟨o, a _ _ n h⟩
end
theorem notup_d {H : Hp} {d : Addr} {kvs : List (Key × V)} (h : Rd H d (.dK kvs)) : ∀ ys, ¬ Rd H d (.tup ys) := fun ys g => by
  rcases h with h | ⟨o, h⟩ <;> rcases g with g | ⟨o2, g⟩ <;> rw [h] at g <;> cases g
theorem nolst_d {H : Hp} {d : Addr} {kvs : List (Key × V)} (h : Rd H d (.dK kvs)) : ∀ ys, ¬ Rd H d (.lst ys) := fun ys g => by
  rcases h with h | ⟨o, h⟩ <;> rcases g with g | ⟨o2, g⟩ <;> rw [h] at g <;> cases g
theorem exs_t {K : PySem.W.Frag} {ds : List Addr} {H H' : Hp} {p : Addr} {xs : List V} (e : Exs ds H H') (n : ∀ d ∈ ds, ∀ ys, ¬ Rd H d (.tup ys)) (h : SqT K H p xs) : SqT K H' p xs :=
  h.elim (fun h => .inl (e.rd (fun z => n _ z _ h) h)) .inr
theorem exs_l {K : PySem.W.Frag} {ds : List Addr} {H H' : Hp} {p : Addr} {xs : List V} (e : Exs ds H H') (n : ∀ d ∈ ds, ∀ ys, ¬ Rd H d (.lst ys)) (h : SqL K H p xs) : SqL K H' p xs :=
  h.elim (fun h => .inl (e.rd (fun z => n _ z _ h) h)) .inr
theorem all1 {α : Type} {p : α → Prop} {a : α} (h : p a) : ∀ x ∈ [a], p x := fun x hx => by rw [List.mem_singleton.mp hx]; exact h
theorem all2 {α : Type} {p : α → Prop} {a b : α} (h : p a) (g : p b) : ∀ x ∈ [a, b], p x := fun x hx => by
  rcases List.mem_cons.mp hx with rfl | hx
  · exact h
  · rw [List.mem_singleton.mp hx]; exact g
section
variable {X : Cx} {k : Nat} {x : Str} {ps : List Str} {sp : Sp} {e : Expr} {es : List Expr} {t : TA} {p pos : Pos}
theorem pe_cS {E : L2.St → XK} (c : CallOk X.prog X.w X.K X.mg X.base k x ps sp) (hr : Room k X.A) (hg : Gl X x) (hx : ∀ σ, PassesAt (L2.CX X.prog X.w) X σ (E σ)) (ha : PA X (e :: es) t) (hdb : (x == ("__debug__" : Str)) = false := by decide)
    (he : starEach (e :: es) X.env = (false, eval e X.env) :: starEach es X.env := by rfl) (hpl : (backTo pos (starEach es X.env)).any (·.1) = false := by rfl) :
    PE X (.Call (.Name x p) (e :: es) [] pos) (tCallS sp E t) := by
  obtain ⟨f, fd, F, hm, hk, hb⟩ := c
  exact pe_callS F hr hg hm hk hb hx ha hdb he hpl
end
/-! ### within a try: the written part by its own name -/
section
variable {X : Cx} {K : PySem.W.Frag} {e o : Expr} {es : List Expr} {f : Str} {ta to : TE} {t : TA} {pos apos cpos : Pos}
theorem pe_fldE (hK : X.K = K) (he : PE X e ta) (hb : attributeBase e f X.env (eval e X.env) = eval e X.env) : PE X (.Attribute e f pos) (tFld K ta f) := hK ▸ pe_fld he hb
theorem pe_bmE {T id : String} {name : Str} {r : V → List V → Hp → VK → Prop} (hK : X.K = K) (pa : PlainAttrs T) (slot : Slot T name id) (hty : typeOf (.builtin id) = pure (.type "method_descriptor")) (hm : MtR X id r) (ho : PE X o to) (ha : PA X (e :: es) t)
    (hbase : attributeBase o name X.env (eval o X.env) = eval o X.env := by rfl)
    (hfew : ((backTo cpos (starEach (e :: es) X.env)).all (fun z => !z.1) && (backToKw cpos (keywordEach [] X.env)).all (fun z => z.1.isSome)
      && decide ((e :: es).length + ([] : List Keyword).length + (if ([] : List Keyword).isEmpty then 0 else 1) < 30)) = true := by rfl)
    (hline : (apos.endLine == cpos.line) = true := by rfl) (hs : starEach (e :: es) X.env = (false, eval e X.env) :: starEach es X.env := by rfl) (hplain : (backTo cpos (starEach es X.env)).any (·.1) = false := by rfl) :
    PE X (.Call (.Attribute o name apos) (e :: es) [] cpos) (tBM K T r to t) := hK ▸ pe_bm pa slot hty hm ho ha hbase hfew hline hs hplain
end
section
variable {K : PySem.W.Frag} {σ : L2.St} {H : Hp} {te ta td ty tv : TE} {D : Ends} {tz : TS}
/-- o.f = e, told raw -/
theorem s_fld_raw {f : Str} (h : tv σ H fun v H1 => ta σ H1 fun x H2 => ∃ a C dx fs, x = .ref a ∧ H2 a = some (.ins C dx fs) ∧ Cls K C ∧ NoAttr K C f ∧ fs.length < 1000 ∧ D.nx σ (upd H2 a (.ins C dx (putF f v fs)))) : sFld K ta tv f D σ H := h
/-- max of a dict of ints -/
theorem ex_maxD {kvs : List (Key × V)} {ns : List Int} {d : Addr} (h : Ev te σ H (.ref d)) (hd : Rd H d (.dK kvs)) (hk : kvs.map (·.1) = ns.map Sum.inl) (hne : 0 < ns.length) : EvX (tCB rMaxD (tCons te tNil)) σ H (fun v _ => ∃ m, v = .int m ∧ m ∈ ns ∧ ∀ a ∈ ns, a ≤ m) := fun H1 e Q q =>
  h H1 e _ fun H2 e2 => ⟨d, kvs, ns, rfl, ex_rd (e.trans e2) hd, hk, hne, fun m h1 h2 => q _ H2 e2 ⟨m, rfl, h1, h2⟩⟩
theorem ex_maxL {ns : List Int} {d : Addr} (h : Ev te σ H (.ref d)) (hd : SqL K H d (ns.map V.int)) (hne : 0 < ns.length) : EvX (tCB (rMax K) (tCons te tNil)) σ H (fun v _ => ∃ m, v = .int m ∧ m ∈ ns ∧ ∀ a ∈ ns, a ≤ m) := fun H1 e Q q =>
  h H1 e _ fun H2 e2 => ⟨d, ns, rfl, ex_l (e.trans e2) hd, hne, fun m h1 h2 => q _ H2 e2 ⟨m, rfl, h1, h2⟩⟩
end
theorem no_hit {kvs : List (Key × V)} (hl : kvs.length = ([] : List (Key × V)).length) : ∀ p ∈ kvs, (∃ z, p.2 = V.str z) ∧ ∀ y, valV [] p.1 = some y → ∃ z, y = V.str z := fun r hr => by
  rw [List.eq_nil_of_length_eq_zero hl] at hr
  cases hr
theorem sameT_nilr (ks : List (Key × V)) : sameT ks [] = ks.isEmpty := by cases ks <;> simp [sameT]
section
variable {K : PySem.W.Frag} {σ : L2.St} {H : Hp} {ta : TE}
/-- d == {}, d != {} -/
theorem ev_eqNilD {d : Addr} {kvs : List (Key × V)} (h : Ev ta σ H (.ref d)) (hd : Rd H d (.dK kvs)) : Ev (tOp rEqM ta tDNewK) σ H (.bl kvs.isEmpty) := fun H1 e Q q =>
  h H1 e _ fun H2 e2 => fun p hp => ⟨d, p, kvs, [], rfl, rfl, ex_rd ((e.trans e2).trans (Ex.new hp)) hd, .inl upd_same, (fun hl => no_hit hl), by rw [sameT_nilr]; exact q _ (e2.trans (Ex.new hp))⟩
theorem ev_neNilD {d : Addr} {kvs : List (Key × V)} (h : Ev ta σ H (.ref d)) (hd : Rd H d (.dK kvs)) : Ev (tOp rNeM ta tDNewK) σ H (.bl (!kvs.isEmpty)) := fun H1 e Q q =>
  h H1 e _ fun H2 e2 => fun p hp => ⟨d, p, kvs, [], rfl, rfl, ex_rd ((e.trans e2).trans (Ex.new hp)) hd, .inl upd_same, (fun hl => no_hit hl), by rw [sameT_nilr]; exact q _ (e2.trans (Ex.new hp))⟩
end
end Kw


set_option Elab.async false
set_option linter.all false
set_option maxRecDepth 100000
set_option maxHeartbeats 4000000
/-! KwK: a dict whose keys are tuples of pairs of texts: put, len. -/
namespace Kw
open PySem PySem.Spec PyProof.Rows L2 Evl
abbrev Rw := List (Str × Str)
/-- at a: the tuple of F's items -/
def Itm (K : PySem.W.Frag) (H : Hp) (a : Addr) (F : Rw) : Prop := ∃ us : List Addr, SqT K H a (us.map V.ref) ∧ Paired (fun u (r : Str × Str) => SqT K H u [.str r.1, .str r.2]) us F
theorem Itm.ex {K : PySem.W.Frag} {H H' : Hp} {a : Addr} {F : Rw} (e : Ex H H') (h : Itm K H a F) : Itm K H' a F := let ⟨us, x, y⟩ := h; ⟨us, ex_t e x, gv_pair (fun _ _ h => ex_t e h) y⟩
def nk (F : Rw) : NestedKey := .tup (F.map fun r => .tup [.text r.1, .text r.2])
theorem nk_inj {F G : Rw} (h : nk F = nk G) : F = G := by
  injection h with h
  induction F generalizing G with
  | nil => cases G with
    | nil => rfl
    | cons b G => cases h
  | cons a F ih => cases G with
    | nil => cases h
    | cons b G =>
      rw [List.map_cons, List.map_cons] at h
      injection h with h1 h2
      injection h1 with h3
      injection h3 with h4 h5
      injection h4 with h4
      injection h5 with h5 _
      injection h5 with h5
      rw [ih h2, Prod.ext h4 h5]
theorem nk_depth (F : Rw) : (nk F).depth ≤ 8 := by
  have go : ∀ F : Rw, NestedKey.depthAll (F.map fun r => .tup [.text r.1, .text r.2]) ≤ 1 := fun F => by
    induction F with
    | nil => exact Nat.zero_le _
    | cons r F ih =>
      rw [List.map_cons, NestedKey.depthAll]
      have z : NestedKey.depth (.tup [.text r.1, .text r.2]) = 1 := rfl
      omega
  have := go F
  show NestedKey.depthAll _ + 1 ≤ 8
  omega
def ndF (w : World) (d : Addr) (fs : List (Rw × Addr)) (h : Heap) : Prop := fs.length ≤ sizeLine ∧ (d == sysModules) = false ∧ ∃ (xs : List (NestedKey × Addr × Value)) (o : Obj) (es : Array DictEntry) (ep : Nat),
  Paired (fun (p : Rw × Addr) x => x.1 = nk p.1 ∧ x.2.1 = p.2) fs xs ∧ h.get? d = some o ∧ o.ExactDict ∧ o.data = .dict es ep ∧ es.toList = xs.map (fun x => ⟨x.1.hash w, .ref x.2.1, x.2.2⟩) ∧ (xs.map (·.1)).Nodup
/-- the dict at d holds the keys fs, told by their addresses -/
structure ND (w : World) (K : PySem.W.Frag) (H : Hp) (d : Addr) (fs : List (Rw × Addr)) : Prop where
  at' : H d = some (.ext (ndF w d fs))
  its : ∀ p ∈ fs, Itm K H p.2 p.1
theorem ND.ex {w : World} {K : PySem.W.Frag} {H H' : Hp} {d : Addr} {fs : List (Rw × Addr)} (e : Ex H H') (h : ND w K H d fs) : ND w K H' d fs := ⟨e _ _ h.at', fun p hp => (h.its p hp).ex e⟩
def stF (fs : List (Rw × Addr)) (F : Rw) (a : Addr) : List (Rw × Addr) := if F ∈ fs.map (·.1) then fs else fs ++ [(F, a)]
theorem atKey_nk {fs : List (Rw × Addr)} {xs : List (NestedKey × Addr × Value)} (h : Paired (fun (p : Rw × Addr) x => x.1 = nk p.1 ∧ x.2.1 = p.2) fs xs) (F : Rw) : (atKey xs (nk F)).isSome = decide (F ∈ fs.map (·.1)) := by
  induction h with
  | nil => rfl
  | @cons p x ps ys h1 _ ih =>
    unfold atKey at *
    rw [List.find?_cons]
    by_cases c : p.1 = F
    · rw [decide_eq_true (by rw [h1.1, c])]
      simp [c]
    · rw [decide_eq_false (fun z => c (nk_inj (by rw [← h1.1, z])))]
      rw [ih]
      simp [Ne.symm c]
theorem st_pair {fs : List (Rw × Addr)} {xs : List (NestedKey × Addr × Value)} (h : Paired (fun (p : Rw × Addr) x => x.1 = nk p.1 ∧ x.2.1 = p.2) fs xs) (F : Rw) (a : Addr) (v : Value) :
    Paired (fun (p : Rw × Addr) x => x.1 = nk p.1 ∧ x.2.1 = p.2) (stF fs F a) (storedH xs (nk F) a v) := by
  have e := atKey_nk h F
  unfold stF
  by_cases c : F ∈ fs.map (·.1)
  · rw [if_pos c]
    rw [decide_eq_true c] at e
    unfold storedH
    rw [if_pos e]
    clear e c
    induction h with
    | nil => exact .nil
    | @cons p x ps ys h1 _ ih =>
      refine .cons ?_ ih
      unfold putAt
      split <;> exact h1
  · rw [if_neg c]
    rw [decide_eq_false c] at e
    unfold storedH
    rw [e]
    exact paired_snoc h ⟨rfl, rfl⟩
section
variable {X : Cx} {pins : List (Addr × Obj)} {σ : L2.St} {H : Hp} {s : Shared}
theorem itm_key {a : Addr} {F : Rw} (I : Inv X pins σ H s) (h : Itm X.K H a F) : NestedIs s.heap (nk F) (.ref a) := by
  obtain ⟨us, hs, hP⟩ := h
  obtain ⟨its, r, ⟨o, ho, hc, n, hd⟩, _⟩ := I.tuple hs
  refine .tup ho hc hd ?_
  have go : ∀ {us : List Addr} {F : Rw} {its : List Value}, Paired (fun u (r : Str × Str) => SqT X.K H u [.str r.1, .str r.2]) us F → Vals (us.map V.ref) its → NestedAll s.heap (F.map fun r => .tup [.text r.1, .text r.2]) its := by
    intro us F its hP
    induction hP generalizing its with
    | nil => intro r; cases r; exact .nil
    | @cons u q us F h1 _ ih =>
      intro r
      cases r with
      | @cons _ v _ vs rv rr =>
        cases rv
        obtain ⟨its2, r2, ⟨o2, ho2, hc2, n2, hd2⟩, _⟩ := I.tuple h1
        refine .cons (.tup ho2 hc2 hd2 ?_) (ih rr)
        cases r2 with
        | cons ra r3 =>
          cases r3 with
          | cons rb r4 =>
            cases r4
            obtain ⟨ta, rfl⟩ := ra
            obtain ⟨tb, rfl⟩ := rb
            exact .cons (.text _ _) (.cons (.text _ _) .nil)
  simpa using go hP r
theorem nd_of {d : Addr} {fs : List (Rw × Addr)} (I : Inv X pins σ H s) (h : ND X.w X.K H d fs) : fs.length ≤ sizeLine ∧ (d == sysModules) = false ∧ ∃ xs : List (NestedKey × Addr × Value), Paired (fun (p : Rw × Addr) x => x.1 = nk p.1 ∧ x.2.1 = p.2) fs xs ∧ s.heap.DictOfH (nestedKind X.prog X.w) d xs := by
  obtain ⟨z, hd, xs, o, es, ep, hP, h1, h2, h3, h4, h5⟩ := (show ObjOk _ _ H s.heap d (.ext (ndF X.w d fs)) from I.hok d _ h.at').1
  refine ⟨z, hd, xs, hP, o, es, ep, h1, h2, h3, h4, fun x hx => ?_, h5⟩
  have go : ∀ {fs : List (Rw × Addr)} {xs : List (NestedKey × Addr × Value)}, Paired (fun (p : Rw × Addr) x => x.1 = nk p.1 ∧ x.2.1 = p.2) fs xs → (∀ p ∈ fs, Itm X.K H p.2 p.1) → ∀ x ∈ xs, NestedIs s.heap x.1 (.ref x.2.1) ∧ x.1.depth ≤ 8 := by
    intro fs xs q
    induction q with
    | nil => intro _ x hx; cases hx
    | @cons p y ps ys h1 _ ih =>
      intro hi x hx
      rcases List.mem_cons.mp hx with e | hx
      · subst e
        rw [h1.1, h1.2]
        exact ⟨itm_key I (hi p (List.mem_cons_self ..)), nk_depth _⟩
      · exact ih (fun q hq => hi q (List.mem_cons_of_mem _ hq)) x hx
  exact go hP h.its x hx
/-- {}, to hold such keys -/
def tDNewN (w : World) : TE := fun _ H Q => ∀ p, H p = none → Q (.ref p) (upd H p (.ext (ndF w p [])))
theorem nd_mono {w : World} {d : Addr} {fs : List (Rw × Addr)} : ∀ h1 h2 : Heap, ndF w d fs h1 → (∀ o, h1.get? d = some o → h2.get? d = some o) → ndF w d fs h2 := fun h1 h2 ⟨z, hd, xs, o, es, ep, hP, g1, g⟩ k => ⟨z, hd, xs, o, es, ep, hP, k _ g1, g⟩
theorem pe_dnewN {pos : Pos} : PE X (.Dict [] [] pos) (tDNewN X.w) := ⟨fun pins s σ H Q I h =>
  wpAny_Dict_empty ⟨.ref s.heap.objs.size, _, I.laid (a := s.heap.objs.size) (o := .ext (ndF X.w s.heap.objs.size [])) (t' := s.toks) (fun _ _ q => Heap.get?_push_of_some _ q) (Nat.le_refl _)
    ⟨⟨Nat.zero_le _, beq_eq_false_iff_ne.mpr (Ne.symm (Nat.ne_of_lt I.big)), [], _, #[], 0, .nil, Heap.get?_push_size _ rfl, ⟨rfl, rfl, rfl⟩, rfl, rfl, List.nodup_nil⟩, ⟨_, Heap.get?_push_size _ rfl⟩, nd_mono⟩, rfl, h _ (I.hok.fresh (Nat.le_refl _))⟩⟩
/-- d[a tuple] = v -/
def sNPut (w : World) (K : PySem.W.Frag) (td ty tv : TE) : TS := fun D σ H => tv σ H fun _ H1 => td σ H1 fun x H2 => ty σ H2 fun y H3 => ∃ (d a : Addr) (fs : List (Rw × Addr)) (F : Rw), x = .ref d ∧ y = .ref a ∧ ND w K H3 d fs ∧ Itm K H3 a F ∧ fs.length < sizeLine ∧ D.nx σ (upd H3 d (.ext (ndF w d (stF fs F a))))
theorem ps_nput {o i value : Expr} {td ty tv : TE} {pos pos' : Pos} (hu : X.A.units + 64 < cLine) (ho : PE X o td) (hi : PE X i ty) (hv : PE X value tv) (hs : swapsWith value (some (.Subscript o i pos')) pos.line X.env = pure false) :
    PS X (.Assign [.Subscript o i pos'] value pos) (sNPut X.w X.K td ty tv) := by
  refine ⟨fun pins s σ H D I h => ?_⟩
  refine wpAny_Assign_Subscript (thn (hv.run pins s σ H _ I h) fun r s1 ⟨v, H1, I1, rv, q1⟩ => thn (ho.run pins s1 σ H1 _ I1 q1) fun u s2 ⟨x, H2, I2, rx, q2⟩ => thn (hi.run pins s2 σ H2 _ I2 q2) fun iv s3 ⟨y, H3, I3, ry, d, a, fs, F, ex, ey, nd, hF, hl, q3⟩ => ?_) hs
  subst ex ey
  obtain rfl : u = Value.ref d := rx
  obtain rfl : iv = Value.ref a := ry
  obtain ⟨z, hd, xs, hP, dd⟩ := nd_of I3 nd
  have hxl : xs.length ≤ sizeLine := by rw [← Paired.length hP]; exact z
  refine wpAny_setItem_heap (knd := nestedKind X.prog X.w) (k := nk F) (hsz := hxl) (show X.A.units + 1 + 8 < cLine by omega) (show NestedIs s3.heap (nk F) (.ref a) ∧ (nk F).depth ≤ 8 from ⟨itm_key I3 hF, nk_depth F⟩) dd fun h' dd' hs' => ⟨σ, _, ?_, q3⟩
  obtain ⟨q, es, ep, hq, g2, g3, g4, _, g5⟩ := dd'
  refine d_write I3 (by rw [nd.at']; exact True.intro) hs' ⟨q, hq⟩ ⟨⟨?_, hd, _, q, es, ep, st_pair hP F a r, hq, g2, g3, g4, g5⟩, ⟨q, hq⟩, nd_mono⟩
  unfold stF
  split
  · exact z
  · rw [List.length_append]; exact hl
/-- len of it -/
def rLenN (w : World) (K : PySem.W.Frag) : List V → Hp → VK → Prop := fun xs H Q => ∃ (p : Addr) (fs : List (Rw × Addr)), xs = [.ref p] ∧ ND w K H p fs ∧ Q (.int ((fs.length : Nat) : Int)) H
theorem call_lenN : CallR X (.builtin "len") (rLenN X.w X.K) := by
  intro pins s σ H xs us Q I r h
  obtain ⟨p, fs, rfl, hp, q⟩ := h
  obtain ⟨u, rfl, rx⟩ := vals1 r
  obtain rfl : u = .ref p := rx
  obtain ⟨z, hd, ys, rel, dd⟩ := nd_of I hp
  have hl : fs.length = ys.length := Paired.length rel
  refine call_len_dictH hd dd (by rw [← hl]; rw [sizeLine_eq] at z; omega) ?_
  rw [← hl]
  exact ⟨.int ((fs.length : Nat) : Int), H, I.tok _, ⟨_, rfl⟩, q⟩
theorem b_lenN {e : Expr} {es : List Expr} {t : TA} {p pos : Pos} (B : Blt X.mg) (ha : PA X (e :: es) t) (hg : Gl X "len" := by rfl) (he : SE X e es := by rfl) (hp : SP0 X pos es := by rfl) : PE X (.Call (.Name "len" p) (e :: es) [] pos) (tCB (rLenN X.w X.K) t) :=
  pe_callB call_lenN hg B.len PySem.boot_len ha (by decide) (by decide) he hp
end
end Kw


set_option Elab.async false
set_option linter.all false
set_option maxRecDepth 100000
set_option maxHeartbeats 4000000
/-! KwL: f(lambda: ..) where f is: try: return what() except (A, B): return None; None or a dict against None or a dict. -/
namespace Kw
open PySem PySem.Spec PyProof.Rows L2 Evl
/-- what the asked def makes of the lambda's reading -/
def TTwo (K : PySem.W.Frag) (c1 c2 : Value) : (XK → Hp → VK → Prop) → Hp → VK → Prop := fun tl H Q =>
  tl (fun cls _ H' => PySem.W.exmAny K cls [c1, c2] = some true ∧ Q .non H') H Q
section
variable {X : Cx}
theorem two_gives {Ng : List Str} {x a e1 e2 q : Str} {sg : Scope} {g : Addr} {c1 c2 : Value} {cdg : Value} {kk j : Nat} {p1 p2 p3 p4 p5 p6 p7 p8 p9 tp : Pos} (hg1 : sg.names.lookup e1 = some .globalImplicit) (hg2 : sg.names.lookup e2 = some .globalImplicit) (hm1 : X.mg e1 = some c1) (hm2 : X.mg e2 = some c2)
    (hd1 : (e1 == ("__debug__" : Str)) = false) (hd2 : (e2 == ("__debug__" : Str)) = false) (h0 : ∀ f : Addr, (L2.start Ng [V.ref f])[0]? = some (some (V.ref f))) :
    LamX.GivesTo X Ng x sg g cdg [.Try [.Return (some (.Call (.Name a p1) [] [] p2)) p3] [.ExceptHandler (some (.Tuple [.Name e1 p4, .Name e2 p9] kk tp)) none [.Return (some (.Constant .none j p5)) p6] p7] [] [] p8] a q (TTwo X.K c1 c2) := by
  intro f c' s H Q tl act hc h
  have gl1 : Gl (cxOf C8.CX0 X.prog X.w X.K X.mg X.base Ng x sg g cdg X.A X.stack s H C8.E0).nox e1 := hg1
  have gl2 : Gl (cxOf C8.CX0 X.prog X.w X.K X.mg X.base Ng x sg g cdg X.A X.stack s H C8.E0).nox e2 := hg2
  refine ⟨_, pss_one (ps_tryTwo (X := (cxOf C8.CX0 X.prog X.w X.K X.mg X.base Ng x sg g cdg X.A X.stack s H C8.E0).nox) (c1 := c1) (c2 := c2)
      (tb := fun W D σ H => ∃ Ech : XK, (∀ cls d σ' H', Ech cls d H' → W cls d σ' H') ∧ σ[0]? = some (some (.ref f)) ∧ H c' = some (LamX.CodeO c' q) ∧ tl Ech H D.rt)
      rfl rfl ⟨gl1, hd1, .inl hm1⟩ ⟨gl2, hd2, .inl hm2⟩ (fun W pn xe tk _ => ?_) (fun a oe cls d pn _ _ => pss_one (ps_ret pe_non))), ?_⟩
  · refine ⟨fun pins s' σ H' D I h' => ?_⟩
    obtain ⟨Ech, hW, h1, h2, h3⟩ := h'
    have hp := act W pn xe Ech p1 p2 tk hW
    have hq := pss_one (ps_ret (pos := p3) hp)
    exact hq.run pins s' σ H' D I ⟨h1, h2, h3⟩
  · exact ⟨fun cls _ H' => PySem.W.exmAny X.K cls [c1, c2] = some true ∧ Q .non H', fun cls d σ' H' ⟨e1, e2⟩ => ⟨e1, fun a _ => e2⟩, h0 f, hc, h⟩
/-- None or a dict of texts, against None or such a dict -/
def rNeO : R2 := fun x y H Q => (x = .non ∧ y = .non ∧ Q (.bl false) H) ∨ rNeM x y H Q
theorem op_neO (hu : X.A.units + 64 < cLine) : OpR X (compareOp .NotEq) rNeO := by
  intro pins s σ H x y v u Q I rx ry h
  rcases h with ⟨rfl, rfl, q⟩ | h
  · exact op_ne pins s σ H .non .non v u Q I rx ry ⟨rfl, q⟩
  · exact op_neM hu pins s σ H x y v u Q I rx ry h
/-- list(d) -/
theorem b_listD {e : Expr} {es : List Expr} {t : TA} {p pos : Pos} (B : Blt X.mg) (ha : PA X (e :: es) t) (hc : X.calm = true := by rfl) (hg : Gl X "list" := by rfl) (he : SE X e es := by rfl) (hp : SP0 X pos es := by rfl) : PE X (.Call (.Name "list" p) (e :: es) [] pos) (tCB rListD t) :=
  pe_callTy (call_list_dK hc) hg B.list (by decide +kernel) ha (by decide) (by decide) he hp
end
theorem en_listD {σ : L2.St} {H : Hp} {te : TE} {p : Addr} {kvs : List (Key × V)} (h : Ev te σ H (.ref p)) (hd : H p = some (.dK kvs)) : EvN (tCB rListD (tCons te tNil)) σ H (.lst (kvs.map fun kv => kV kv.1)) := fun H1 e Q q =>
  h H1 e _ fun H2 e2 => ⟨p, kvs, rfl, e2 _ _ (e _ _ hd), fun l hl => q l _ (fresh_back e2 hl) (e2.trans (Ex.new hl)) upd_same⟩
end Kw


set_option Elab.async false
set_option linter.all false
set_option maxRecDepth 100000
set_option maxHeartbeats 4000000
/-! Fig: figure. -/
namespace Kw
open PySem PySem.Spec PyProof.Rows L2 Evl
local macro_rules
  | `(tactic| walk_at "hp") => `(tactic| first
      | exact prp (by assumption)
      | exact rfl
      | exact upd_same
      | ((with_reducible apply sq_of); first | assumption | exact upd_same)
      | ((with_reducible apply st_of); first | assumption | exact upd_same)
      | ((with_reducible apply rd_of); first | assumption | exact upd_same)
      | ((with_reducible apply ex_l); assumption; walk_at "hp")
      | ((with_reducible apply ex_t); assumption; walk_at "hp")
      | ((with_reducible apply ex_rd); assumption; walk_at "hp")
      | ((with_reducible apply ex_at); assumption; walk_at "hp")
      | ((with_reducible apply Or.inl); walk_at "hp")
      | ((with_reducible apply Or.inr); walk_at "hp")
      | ((with_reducible apply LenD.lst); walk_at "hp")
      | ((with_reducible apply LenD.tup); walk_at "hp")
      | ((with_reducible apply LenD.dic); walk_at "hp")
      | ((with_reducible apply LenD.str); walk_at "hp")
      | ((with_reducible apply mulR); decide)
      | ((with_reducible apply mulL); decide)
      | decide
      | omega)
local macro_rules
  | `(tactic| walk_at "ev") => `(tactic| ((fail_if_success (with_reducible apply ev_bad)); (fail_if_success (with_reducible apply et_bad)); (fail_if_success (with_reducible apply ea_bad)); (fail_if_success (with_reducible apply en_bad)); first
      | ((with_reducible apply ev_var); exact rfl)
      | (with_reducible exact ev_c)
      | (with_reducible exact ea_nil)
      | (with_reducible exact eo_none)
      | ((with_reducible apply eo_some) <;> try walk_at "ev")
      | ((with_reducible apply ea_cons) <;> try walk_at "ev")
      | ((with_reducible apply ev_inTup) <;> try walk_at "ev")
      | ((with_reducible apply ev_niTup) <;> try walk_at "ev")
      | ((with_reducible apply ev_ixP) <;> try walk_at "ev")
      | (with_reducible exact rv_isN)
      | (with_reducible exact rv_notN)
      | ((with_reducible apply ev_op) <;> try walk_at "ev")
      | (with_reducible exact rv_I0)
      | ((with_reducible apply rv_I) <;> try walk_at "hp")
      | ((with_reducible apply rv_eq); exact rfl)
      | ((with_reducible apply rv_ne); exact rfl)
      | ((with_reducible apply rv_addS) <;> try walk_at "hp")
      | ((with_reducible apply rv_ixL); walk_at "hp"; walk_at "hp")
      | ((with_reducible apply rv_ixT); walk_at "hp"; walk_at "hp")
      | ((with_reducible apply ev_cb) <;> try walk_at "ev")
      | ((with_reducible apply rc_len); walk_at "hp")
      | (with_reducible exact rc_ord)
      | ((with_reducible apply rc_str) <;> try walk_at "hp")
      | (with_reducible exact rc_int)
      | (with_reducible exact rc_intB)
      | (with_reducible exact rc_abs)
      | (with_reducible exact rc_max2)
      | (with_reducible exact rc_min2)
      | ((with_reducible apply ev_joinN) <;> try walk_at "ev")
      | ((with_reducible apply ev_m1) <;> try walk_at "ev")
      | ((with_reducible apply rm_strip) <;> try walk_at "hp")
      | (with_reducible exact rm_starts)
      | ((with_reducible apply rm_join) <;> try walk_at "hp")
      | ((with_reducible apply ev_slS) <;> try walk_at "ev")
      | ((with_reducible apply ev_dget) <;> try walk_at "ev")
      | ((with_reducible apply ev_din) <;> try walk_at "ev")
      | ((with_reducible apply ev_dnotin) <;> try walk_at "ev")
      | ((with_reducible apply ev_fld) <;> try walk_at "ev")
      | ((with_reducible apply et_test) <;> try walk_at "ev")
      | ((with_reducible apply et_B) <;> try walk_at "ev")
      | ((with_reducible apply et_and) <;> try walk_at "ev")
      | ((with_reducible apply et_or) <;> try walk_at "ev")
      | ((with_reducible apply et_not) <;> try walk_at "ev")
      | (with_reducible exact en_dnew)
      | (with_reducible exact et_yes)
      | ((with_reducible apply ex_tup) <;> try walk_at "ev")
      | ((with_reducible apply en_slL) <;> try walk_at "ev")
      | ((with_reducible apply en_split) <;> try walk_at "ev")
      | ((with_reducible apply en_part) <;> try walk_at "ev")
      | walk_at "hp"
      | ((with_reducible refine fun hb => ?_); try walk_at "ev")))
local macro_rules
  | `(tactic| walk_at "lcf") => `(tactic| first
      | (intro _ _ _ _ _; exact rfl)
      | (intro _ _ _ _ _; dsimp only [Cx.blk]; done)
      | (intro _ _ _ _ _; dsimp only [Cx.blk]; exact rfl))
def figL (cs : List Nat) : Nat := cs.foldl (fun f c => (f * 257 + c) % 1000003) 7
theorem figL_take {cs : List Nat} {i c : Nat} (h : cs[i]? = some c) : figL (cs.take (i + 1)) = (figL (cs.take i) * 257 + c) % 1000003 := by
  obtain ⟨hi, rfl⟩ := List.getElem?_eq_some_iff.mp h
  unfold figL
  rw [List.take_succ_eq_append_getElem hi, List.foldl_append]
  rfl
theorem figL_lt (cs : List Nat) : figL cs < 1000003 := by
  rcases List.eq_nil_or_concat cs with rfl | ⟨ys, y, rfl⟩
  · decide
  · unfold figL
    rw [List.concat_eq_append, List.foldl_append]
    exact Nat.mod_lt _ (by decide)
section
variable {P : Program} {w : World} {K : PySem.W.Frag} {mg : Str → Option Value} {base : Heap} {k : Nat}
def sFigure : List V → Hp → V → Prop := fun vs _ v => ∃ x : Str, vs = [.str x] ∧ v = .int (figL (TL.tl x) : Nat)
theorem figure_ok (T : Md K mg base) (hk : 1 ≤ k) : CallOk P w K mg base k "figure" ["text"] (spV sFigure) := by
  obtain ⟨k, rfl⟩ : ∃ j, k = j + 1 := ⟨k - 1, by omega⟩
  refine T.d_figure.ok (N := ["text", "found", "sign"]) sc_figure (by rintro vs H Q E ⟨v, ⟨x, rfl, -⟩, -⟩; rfl) ?_
  rintro f cdv A outer s H vs Q E hr ⟨v, ⟨x, rfl, rfl⟩, q⟩
  refine ⟨_, (pss_cons (ps_set (i := 1) sc_figure.nd rfl (Or.inl rfl) pe_int)
    (pss_cons (ps_for PassesOwn.never rfl (pi_str (pv 0)) (pg_name (i := 2) sc_figure.nd rfl (Or.inl rfl))
      (pss_one (ps_set (i := 1) sc_figure.nd rfl (Or.inl rfl) (pe_op op_mod (pe_op op_add (pe_op op_mul (pv 1) (pe_gv T.c_BASE)) (b_ord T.b (pa_cons (pv 2) pa_nil))) (pe_gv T.c_WIDE)))))
    (pss_one (ps_ret (pv 1))))), ?_⟩
  refine q_asg (by walk_at "ev") ?_
  intro H1 e1
  refine q_forS (by walk_at "ev") (fun i σ' H' => Ex H H' ∧ ∃ u, σ' = [some (.str x), some (.int (figL ((TL.tl x).take i) : Nat)), u]) ?_ ?_ ?_
  · intro H2 e2
    exact ⟨e1.trans e2, _, rfl⟩
  · rintro i c σ' H' hi ⟨e, u, rfl⟩
    refine s_asg (by walk_at "ev") ?_
    intro H2 e2
    exact ⟨e.trans e2, _, by rw [figL_take hi]; rfl⟩
  · rintro σ' H' ⟨e, u, rfl⟩
    refine s_ret (by walk_at "ev") ?_
    intro H2 e2
    rw [List.take_length]
    exact q _ (e.trans e2)
end
end Kw


set_option Elab.async false
set_option linter.all false
set_option maxRecDepth 100000
set_option maxHeartbeats 4000000
/-! Fol: check_path, overs_of, .. -/
namespace Kw
open PySem PySem.Spec PyProof.Rows L2 Evl
local macro_rules
  | `(tactic| walk_at "hp") => `(tactic| first
      | exact prp (by assumption)
      | exact rfl
      | exact upd_same
      | ((with_reducible apply sq_of); first | assumption | exact upd_same)
      | ((with_reducible apply st_of); first | assumption | exact upd_same)
      | ((with_reducible apply rd_of); first | assumption | exact upd_same)
      | ((with_reducible apply ex_l); assumption; walk_at "hp")
      | ((with_reducible apply ex_t); assumption; walk_at "hp")
      | ((with_reducible apply ex_rd); assumption; walk_at "hp")
      | ((with_reducible apply ex_at); assumption; walk_at "hp")
      | ((with_reducible apply Or.inl); walk_at "hp")
      | ((with_reducible apply Or.inr); walk_at "hp")
      | ((with_reducible apply LenD.lst); walk_at "hp")
      | ((with_reducible apply LenD.tup); walk_at "hp")
      | ((with_reducible apply LenD.dic); walk_at "hp")
      | ((with_reducible apply LenD.str); walk_at "hp")
      | ((with_reducible apply mulR); decide)
      | ((with_reducible apply mulL); decide)
      | decide
      | omega)
local macro_rules
  | `(tactic| walk_at "ev") => `(tactic| ((fail_if_success (with_reducible apply ev_bad)); (fail_if_success (with_reducible apply et_bad)); (fail_if_success (with_reducible apply ea_bad)); (fail_if_success (with_reducible apply en_bad)); first
      | ((with_reducible apply ev_var); exact rfl)
      | (with_reducible exact ev_c)
      | (with_reducible exact ea_nil)
      | (with_reducible exact eo_none)
      | ((with_reducible apply eo_some) <;> try walk_at "ev")
      | ((with_reducible apply ea_cons) <;> try walk_at "ev")
      | ((with_reducible apply ev_inTup) <;> try walk_at "ev")
      | ((with_reducible apply ev_niTup) <;> try walk_at "ev")
      | ((with_reducible apply ev_ixP) <;> try walk_at "ev")
      | (with_reducible exact rv_isN)
      | (with_reducible exact rv_notN)
      | ((with_reducible apply ev_op) <;> try walk_at "ev")
      | (with_reducible exact rv_I0)
      | ((with_reducible apply rv_I) <;> try walk_at "hp")
      | ((with_reducible apply rv_eq); exact rfl)
      | ((with_reducible apply rv_ne); exact rfl)
      | ((with_reducible apply rv_addS) <;> try walk_at "hp")
      | ((with_reducible apply rv_ixL); walk_at "hp"; walk_at "hp")
      | ((with_reducible apply rv_ixT); walk_at "hp"; walk_at "hp")
      | ((with_reducible apply ev_cb) <;> try walk_at "ev")
      | ((with_reducible apply rc_len); walk_at "hp")
      | (with_reducible exact rc_ord)
      | ((with_reducible apply rc_str) <;> try walk_at "hp")
      | (with_reducible exact rc_int)
      | (with_reducible exact rc_intB)
      | (with_reducible exact rc_abs)
      | (with_reducible exact rc_max2)
      | (with_reducible exact rc_min2)
      | ((with_reducible apply ev_joinN) <;> try walk_at "ev")
      | ((with_reducible apply ev_m1) <;> try walk_at "ev")
      | ((with_reducible apply rm_strip) <;> try walk_at "hp")
      | (with_reducible exact rm_starts)
      | ((with_reducible apply rm_join) <;> try walk_at "hp")
      | ((with_reducible apply ev_slS) <;> try walk_at "ev")
      | ((with_reducible apply ev_dget) <;> try walk_at "ev")
      | ((with_reducible apply ev_din) <;> try walk_at "ev")
      | ((with_reducible apply ev_dnotin) <;> try walk_at "ev")
      | ((with_reducible apply ev_fld) <;> try walk_at "ev")
      | ((with_reducible apply et_test) <;> try walk_at "ev")
      | ((with_reducible apply et_B) <;> try walk_at "ev")
      | ((with_reducible apply et_and) <;> try walk_at "ev")
      | ((with_reducible apply et_or) <;> try walk_at "ev")
      | ((with_reducible apply et_not) <;> try walk_at "ev")
      | (with_reducible exact en_dnew)
      | (with_reducible exact et_yes)
      | ((with_reducible apply ex_tup) <;> try walk_at "ev")
      | ((with_reducible apply en_slL) <;> try walk_at "ev")
      | ((with_reducible apply en_split) <;> try walk_at "ev")
      | ((with_reducible apply en_part) <;> try walk_at "ev")
      | walk_at "hp"
      | ((with_reducible refine fun hb => ?_); try walk_at "ev")))
local macro_rules
  | `(tactic| walk_at "lcf") => `(tactic| first
      | (intro _ _ _ _ _; exact rfl)
      | (intro _ _ _ _ _; dsimp only [Cx.blk]; done)
      | (intro _ _ _ _ _; dsimp only [Cx.blk]; exact rfl))
def SIGNS : Str := "abcdefghijklmnopqrstuvwxyz0123456789._-"
/-- a name that stands -/
def NameOk (n : Str) : Bool := !inV (.str n) [.str "", .str ".", .str ".."] && decide (V.str (Txt.stripChars n SIGNS) = V.str "")
def PathOk (x : Str) : Prop := x.length ≤ 1000 ∧ ∀ n ∈ Txt.split x "/", n.length ≤ 1000 ∧ NameOk n = true
section
variable {P : Program} {w : World} {K : PySem.W.Frag} {mg : Str → Option Value} {base : Heap} {k : Nat}
def sCheckPath : List V → Hp → V → Prop := fun vs _ v => ∃ x : Str, vs = [.str x] ∧ PathOk x ∧ v = .str x
theorem check_path_ok (T : Md K mg base) (hk : 1 ≤ k) : CallOk P w K mg base k "check_path" ["path"] (spV sCheckPath) := by
  obtain ⟨k, rfl⟩ : ∃ j, k = j + 1 := ⟨k - 1, by omega⟩
  refine T.d_check_path.ok (N := ["path", "name"]) sc_check_path (by rintro vs H Q E ⟨v, ⟨x, rfl, -⟩, -⟩; rfl) ?_
  rintro f cdv A outer s H vs Q E hr ⟨v, ⟨x, rfl, hx, rfl⟩, q⟩
  refine ⟨_, (pss_cons (ps_for PassesOwn.never rfl (pi_list (s_split (pv 0) pe_str)) (pg_name (i := 1) sc_check_path.nd rfl (Or.inl rfl))
      (pss_one (ps_if (PW.pt (pw_or (pt_cmpR op_in_seq (pv 1) (pe_tup (pa_cons pe_str (pa_cons pe_str (pa_cons pe_str pa_nil)))) (by rfl)) (pw_or1 (pt_cmpR op_ne (s_strip (pv 1) (pe_gv T.c_SIGNS)) pe_str (nomark _))))) (pss_one ps_never) pss_nil)))
    (pss_one (ps_ret (pv 0)))), ?_⟩
  have hz : x.length + 2 ≤ sizeLine := by have := hx.1; exact sz_of (by omega)
  refine q_forN (xs := (Txt.split x "/").map V.str) (by walk_at "ev") (fun p i σ' H' => Ex H H' ∧ (∃ u, σ' = [some (.str x), u]) ∧ SqL K H' p ((Txt.split x "/").map V.str)) ?_ ?_ ?_ ?_
  · intro p H1 _ e1 h1
    exact ⟨e1, ⟨_, rfl⟩, sq_of h1⟩
  · rintro p i σ' H' _ ⟨_, _, h⟩
    exact h
  · rintro p i y σ' H' hi ⟨e, ⟨u, rfl⟩, h⟩
    obtain ⟨n, hn, -, rfl⟩ := map_at' hi
    obtain ⟨n1, n2⟩ := hx.2 n hn
    have hz2 : n.length ≤ sizeLine := sz_of (by omega)
    unfold NameOk at n2
    simp only [Bool.and_eq_true, Bool.not_eq_true', decide_eq_true_eq] at n2
    exact s_when (b := false) (et_is (by walk_at "ev") (by rw [n2.1]; show (false || !decide (V.str (Txt.stripChars n SIGNS) = V.str "")) = false; rw [decide_eq_true n2.2]; rfl)) (by simp) (fun _ H1 e1 => ⟨e.trans e1, ⟨_, rfl⟩, ex_l e1 h⟩)
  · rintro p σ' H' ⟨e, ⟨u, rfl⟩, h⟩
    exact s_ret (by walk_at "ev") fun H1 e1 => q _ (e.trans e1)
theorem mono_cp : Mono sCheckPath := fun _ _ _ _ _ h => h
/-- what lies over a path -/
def overs (x : Str) : List Str := (List.range (((Txt.split x "/").length : Int) - 1).toNat).map fun a => Txt.join "/" ((Txt.split x "/").take (a + 1))
def sOvers : List V → Hp → HO → Prop := fun vs _ o => ∃ x : Str, vs = [.str x] ∧ x.length ≤ 1000 ∧ (Txt.split x "/").length ≤ 1000 ∧ (∀ n ∈ Txt.split x "/", n.length ≤ 1000) ∧ o = .tup ((overs x).map V.str)
theorem mono_ov : Mono sOvers := fun _ _ _ _ _ h => h
theorem overs_of_ok (T : Md K mg base) (hk : 1 ≤ k) : CallOk P w K mg base k "overs_of" ["path"] (spN sOvers) := by
  obtain ⟨k, rfl⟩ : ∃ j, k = j + 1 := ⟨k - 1, by omega⟩
  refine T.d_overs_of.ok (N := ["path", "names", "count"]) sc_overs_of (by rintro vs H Q E ⟨v, ⟨x, rfl, -⟩, -⟩; rfl) ?_
  rintro f cdv A outer s H vs Q E hr ⟨v, ⟨x, rfl, hx, hl, hs, rfl⟩, q⟩
  refine ⟨_, (pss_cons (ps_set (i := 1) sc_overs_of.nd rfl (Or.inr rfl) (s_split (pv 0) pe_str))
    (pss_one (ps_ret (b_tupleL T.b (pa_cons (pe_lcF (own := [("count", 2)]) rfl sc_overs_of.nd (pi_range2 rfl T.b.range (pa_cons pe_int (pa_cons (b_len T.b (pa_cons (pv 1) pa_nil)) pa_nil))) (blkOk_by (own := [("count", 2)]) (N := ["path", "names", "count"]) (sc := defScope st_overs_of) (by decide +kernel)) (fun _ _ _ _ _ => (by exact (pg_name (i := 2) sc_overs_of.nd rfl (Or.inl rfl)))) (fun _ _ _ _ _ => (by exact pts_nil)) (fun _ _ _ _ _ => (by exact (s_join pe_str (pe_slice sl_list (pv 1) po_none (po_some (pv 2)))))) (by walk_at "lcf") (by walk_at "lcf") (by walk_at "lcf")) pa_nil))))), ?_⟩
  have hz : x.length + 2 ≤ sizeLine := sz_of (by omega)
  refine q_asgN (by walk_at "ev") fun p H1 hp e1 h1 => ?_
  refine s_retN (en_tupN (en_lcT (α := Nat) (f := fun a => V.str (Txt.join "/" ((Txt.split x "/").take (a + 1)))) (lc_R2 _ _ (by walk_at "ev") (by simp only [List.length_map]; omega) (fun _ => rfl) m_val ?_ ?_))) fun p2 H2 hp2 e2 h2 => q p2 H2 (fresh_back e1 hp2) (e1.trans e2) ?_
  · intro a H2 _ _
    walk_at "ev"
  · intro a H2 ha _ e2
    have e0 : (1 : Int) + (a : Int) = ((a + 1 : Nat) : Int) := by omega
    rw [e0]
    refine ev_x (ev_joinN (by walk_at "ev") (en_is (by walk_at "ev") ?_) ?_)
    · rw [cutV_to, ← List.map_take]
    · exact join_size (b := 1000) (n := 1000) (by decide) (fun y hy => hs y (List.mem_of_mem_take hy)) (by rw [List.length_take]; omega) (by decide)
  · rw [h2]
    unfold overs
    rw [List.map_map, List.length_map]
    rfl
end
end Kw


set_option Elab.async false
set_option linter.all false
set_option maxRecDepth 100000
set_option maxHeartbeats 4000000
/-! Fol2: check_folder, names_in, part_of. -/
namespace Kw
open PySem PySem.Spec PyProof.Rows L2 Evl
local macro_rules
  | `(tactic| walk_at "hp") => `(tactic| first
      | exact prp (by assumption)
      | exact rfl
      | exact upd_same
      | ((with_reducible apply sq_of); first | assumption | exact upd_same)
      | ((with_reducible apply st_of); first | assumption | exact upd_same)
      | ((with_reducible apply rd_of); first | assumption | exact upd_same)
      | ((with_reducible apply ex_l); assumption; walk_at "hp")
      | ((with_reducible apply ex_t); assumption; walk_at "hp")
      | ((with_reducible apply ex_rd); assumption; walk_at "hp")
      | ((with_reducible apply ex_at); assumption; walk_at "hp")
      | ((with_reducible apply Or.inl); walk_at "hp")
      | ((with_reducible apply Or.inr); walk_at "hp")
      | ((with_reducible apply LenD.lst); walk_at "hp")
      | ((with_reducible apply LenD.tup); walk_at "hp")
      | ((with_reducible apply LenD.dic); walk_at "hp")
      | ((with_reducible apply LenD.str); walk_at "hp")
      | ((with_reducible apply mulR); decide)
      | ((with_reducible apply mulL); decide)
      | decide
      | omega)
local macro_rules
  | `(tactic| walk_at "ev") => `(tactic| ((fail_if_success (with_reducible apply ev_bad)); (fail_if_success (with_reducible apply et_bad)); (fail_if_success (with_reducible apply ea_bad)); (fail_if_success (with_reducible apply en_bad)); first
      | ((with_reducible apply ev_var); exact rfl)
      | (with_reducible exact ev_c)
      | (with_reducible exact ea_nil)
      | (with_reducible exact eo_none)
      | ((with_reducible apply eo_some) <;> try walk_at "ev")
      | ((with_reducible apply ea_cons) <;> try walk_at "ev")
      | ((with_reducible apply ev_inTup) <;> try walk_at "ev")
      | ((with_reducible apply ev_niTup) <;> try walk_at "ev")
      | ((with_reducible apply ev_ixP) <;> try walk_at "ev")
      | (with_reducible exact rv_isN)
      | (with_reducible exact rv_notN)
      | ((with_reducible apply ev_op) <;> try walk_at "ev")
      | (with_reducible exact rv_I0)
      | ((with_reducible apply rv_I) <;> try walk_at "hp")
      | ((with_reducible apply rv_eq); exact rfl)
      | ((with_reducible apply rv_ne); exact rfl)
      | ((with_reducible apply rv_addS) <;> try walk_at "hp")
      | ((with_reducible apply rv_ixL); walk_at "hp"; walk_at "hp")
      | ((with_reducible apply rv_ixT); walk_at "hp"; walk_at "hp")
      | ((with_reducible apply ev_cb) <;> try walk_at "ev")
      | ((with_reducible apply rc_len); walk_at "hp")
      | (with_reducible exact rc_ord)
      | ((with_reducible apply rc_str) <;> try walk_at "hp")
      | (with_reducible exact rc_int)
      | (with_reducible exact rc_intB)
      | (with_reducible exact rc_abs)
      | (with_reducible exact rc_max2)
      | (with_reducible exact rc_min2)
      | ((with_reducible apply ev_joinN) <;> try walk_at "ev")
      | ((with_reducible apply ev_m1) <;> try walk_at "ev")
      | ((with_reducible apply rm_strip) <;> try walk_at "hp")
      | (with_reducible exact rm_starts)
      | ((with_reducible apply rm_join) <;> try walk_at "hp")
      | ((with_reducible apply ev_slS) <;> try walk_at "ev")
      | ((with_reducible apply ev_dget) <;> try walk_at "ev")
      | ((with_reducible apply ev_din) <;> try walk_at "ev")
      | ((with_reducible apply ev_dnotin) <;> try walk_at "ev")
      | ((with_reducible apply ev_fld) <;> try walk_at "ev")
      | ((with_reducible apply et_test) <;> try walk_at "ev")
      | ((with_reducible apply et_B) <;> try walk_at "ev")
      | ((with_reducible apply et_and) <;> try walk_at "ev")
      | ((with_reducible apply et_or) <;> try walk_at "ev")
      | ((with_reducible apply et_not) <;> try walk_at "ev")
      | (with_reducible exact en_dnew)
      | (with_reducible exact et_yes)
      | ((with_reducible apply ex_tup) <;> try walk_at "ev")
      | ((with_reducible apply en_slL) <;> try walk_at "ev")
      | ((with_reducible apply en_split) <;> try walk_at "ev")
      | ((with_reducible apply en_part) <;> try walk_at "ev")
      | walk_at "hp"
      | ((with_reducible refine fun hb => ?_); try walk_at "ev")))
local macro_rules
  | `(tactic| walk_at "lcf") => `(tactic| first
      | (intro _ _ _ _ _; exact rfl)
      | (intro _ _ _ _ _; dsimp only [Cx.blk]; done)
      | (intro _ _ _ _ _; dsimp only [Cx.blk]; exact rfl))
abbrev Tb := List (Str × Str)
structure TbOk (t : Tb) : Prop where
  nd : (ks t).Nodup
  few : t.length ≤ 100
  path : ∀ p ∈ ks t, PathOk p ∧ (Txt.split p "/").length ≤ 1000
  over : ∀ p ∈ ks t, ∀ o ∈ overs p, o ∉ ks t
/-- the same rows in the order of their paths -/
def can (t : Tb) : Tb := (sortS (ks t)).map fun p => (p, (lk t p).getD "")
theorem ks_can (t : Tb) : ks (can t) = sortS (ks t) := by unfold can ks; rw [List.map_map]; exact List.map_id _
theorem nd_can {t : Tb} (h : (ks t).Nodup) : (ks (can t)).Nodup := by rw [ks_can]; exact nd_sortS h
theorem lk_can {t : Tb} (h : (ks t).Nodup) (p : Str) : lk (can t) p = lk t p := by
  by_cases hp : p ∈ ks t
  · obtain ⟨v, hv⟩ := mem_ks hp
    rw [hv, lk_iff (nd_can h)]
    exact List.mem_map.mpr ⟨p, mem_sortS.mpr hp, by rw [hv]; rfl⟩
  · rw [lk_none.mpr hp, lk_none, ks_can, mem_sortS]; exact hp
theorem len_can (t : Tb) : (can t).length = t.length := by
  unfold can
  rw [List.length_map, (sortS_perm _).length_eq]
  simp [ks]
section
variable {P : Program} {w : World} {K : PySem.W.Frag} {mg : Str → Option Value} {base : Heap} {k : Nat}
def sCheckFolder (P0 : Addr) : List V → Hp → HO → Prop := fun vs H o => ∃ (d : Addr) (t : Tb), vs = [.ref d] ∧ Rd H d (.dK (tD t)) ∧ TbOk t ∧ Tab P0 H ∧ o = .dK (tD (can t))
theorem mono_cf {P0 : Addr} : Mono (sCheckFolder P0) := fun _ _ _ _ e ⟨d, t, a, b, c, f, g⟩ => ⟨d, t, a, ex_rd e b, c, f.ex e, g⟩
theorem check_folder_ok (T : Md K mg base) (hk : 2 ≤ k) : CallOk P w K mg base k "check_folder" ["table"] (spN (sCheckFolder T.P0)) := by
  obtain ⟨k, rfl⟩ : ∃ j, k = j + 1 := ⟨k - 1, by omega⟩
  refine T.d_check_folder.ok (N := ["table", "found", "path"]) sc_check_folder (by rintro vs H Q E ⟨v, ⟨d, t, rfl, -⟩, -⟩; rfl) ?_
  rintro f A outer s H vs Q E hr ⟨v, ⟨d, t, rfl, hd, ok, tab, rfl⟩, q⟩
  refine ⟨_, (pss_cons (ps_set (i := 1) sc_check_folder.nd rfl (Or.inr rfl) (b_dictL T.b (pa_cons (pe_lcF (own := [("path", 2)]) rfl sc_check_folder.nd (pi_list (b_sortedD T.b (hu64_of hr) (pa_cons (pv 0) pa_nil))) (blkOk_by (own := [("path", 2)]) (N := ["table", "found", "path"]) (sc := defScope st_check_folder) (by decide +kernel)) (fun _ _ _ _ _ => (by exact (pg_name (i := 2) sc_check_folder.nd rfl (Or.inl rfl)))) (fun _ _ _ _ _ => (by exact pts_nil)) (fun _ _ _ _ _ => (by exact (pe_tup (pa_cons (pe_c (check_path_ok T (by omega)) hr (by rfl) (pa_cons (pv 2) pa_nil)) (pa_cons (pe_dget (hu_of hr) (pv 0) (pv 2) (fun _ _ => rfl)) pa_nil))))) (by walk_at "lcf") (by walk_at "lcf") (by walk_at "lcf")) pa_nil)))
    (pss_cons (ps_un (ps_for PassesOwn.never rfl (pi_keys (pe_lkA (pv 1))) (pg_name (i := 2) sc_check_folder.nd rfl (Or.inl rfl))
      (pss_one (ps_if (pt_val (pe_anyIn (i := 1) hr T.b T.tb_check_folder rfl (by rfl) (by rfl) (pe_c (overs_of_ok T (by omega)) hr (by rfl) (pa_cons (pv 2) pa_nil)))) (pss_one ps_never) pss_nil))))
    (pss_one (ps_ret (pv 1))))), ?_⟩
  have hl : (sortS (ks t)).length ≤ 90000 := by have := ok.few; rw [(sortS_perm _).length_eq]; simp [ks]; omega
  have e0 : mergeK [] (((sortS (ks t)).filter fun _ => true).map fun p => ((Sum.inr p : Key), V.str ((lk t p).getD ""))) = tD (can t) := by
    rw [filter_true]
    have z := en_merge0 (ka := Sum.inr) (vb := V.str) inr_inj' (can t)
    rw [mrg_nd (nd_can ok.nd)] at z
    refine Eq.trans ?_ z
    unfold can en
    rw [List.map_map]
    rfl
  refine q_asgN (en_is (en_dictP (α := Str) (b := fun _ => true) (kv := fun p => (Sum.inr p, V.str ((lk t p).getD ""))) (lc_N (sortS (ks t)) V.str (fun _ => true) _ (en_srtDS (by walk_at "ev") hd (en_keys t)) hl (fun _ => rfl) m_tup ?_ ?_)) (congrArg HO.dK e0)) fun p H1 hp e1 h1 => ?_
  · intro a H1 _ _
    walk_at "ev"
  · intro a H1 ha _ e1
    have ha' := mem_sortS.mp ha
    obtain ⟨x, hx⟩ := mem_ks ha'
    refine ex_tup (ea_cons (ev_cl mono_cp (by walk_at "ev") ⟨a, rfl, (ok.path a ha').1, rfl⟩) (ea_cons (ev_dget (k := .inr a) (by walk_at "ev") (by walk_at "ev") (ex_rd e1 hd) ?_) ea_nil)) (by simp)
    rw [en_look inr_inj', hx]; rfl
  · refine s_forK (N := NF _) (C := fun _ => True) (te := tVar 1) (kvs := tD (can t)) (fun Q' q' => ⟨_, rfl, q' p _ trivial (Ex.refl _) (rd_of h1)⟩) fun d' H2 B od _ e2 l => ?_
    refine ⟨fun i σ' H' => Ex B H' ∧ ∃ u, σ' = [some (.ref d), some (.ref p), u], ⟨Ex.refl _, _, rfl⟩, fun i σ' H' h => h.1 _ _ l.there, ?_, ?_⟩
    · rintro i kk vv σ' H' hi ⟨e, u, rfl⟩
      obtain ⟨r, hr1, -, rfl, rfl⟩ := en_at hi
      have hp1 : r.1 ∈ ks t := by
        have z : r.1 ∈ ks (can t) := List.mem_map.mpr ⟨r, hr1, rfl⟩
        rw [ks_can] at z
        exact mem_sortS.mp z
      obtain ⟨pa, pb⟩ := ok.path _ hp1
      have eB : Rd B p (.dK (tD (can t))) := l.dic (ex_rd e2 (rd_of h1))
      refine s_when (b := false) (et_is (et_test (ev_anyIn (kvs := tD (can t)) (en_cl mono_ov (by walk_at "ev") ⟨r.1, rfl, pa.1, pb, fun n hn => (pa.2 n hn).1, rfl⟩) (by walk_at "ev") (ex_rd e eB) (((tab.ex (e1.trans e2)).lk l).ex e))) ?_) (by simp) fun _ H3 e3 => ⟨e.trans e3, _, rfl⟩
      rw [List.any_eq_false]
      intro o ho
      rw [en_look inr_inj', Option.isSome_map, lk_can ok.nd, lk_isSome]
      simpa using ok.over _ hp1 o ho
    · rintro σ' H' ⟨e, u, rfl⟩ Hf g1 g2
      have eF : Ex H2 Hf := l.back e g1 g2
      dsimp only
      exact s_ret (by walk_at "ev") fun H4 e4 => q p H4 hp (((e1.trans e2).trans eF).trans e4) (e4 _ _ (eF _ _ (e2 _ _ h1)))
end
end Kw


set_option Elab.async false
set_option linter.all false
set_option maxRecDepth 100000
set_option maxHeartbeats 4000000
/-! Fol3: names_in, part_of. -/
namespace Kw
open PySem PySem.Spec PyProof.Rows L2 Evl
local macro_rules
  | `(tactic| walk_at "hp") => `(tactic| first
      | exact prp (by assumption)
      | exact rfl
      | exact upd_same
      | ((with_reducible apply sq_of); first | assumption | exact upd_same)
      | ((with_reducible apply st_of); first | assumption | exact upd_same)
      | ((with_reducible apply rd_of); first | assumption | exact upd_same)
      | ((with_reducible apply ex_l); assumption; walk_at "hp")
      | ((with_reducible apply ex_t); assumption; walk_at "hp")
      | ((with_reducible apply ex_rd); assumption; walk_at "hp")
      | ((with_reducible apply ex_at); assumption; walk_at "hp")
      | ((with_reducible apply Or.inl); walk_at "hp")
      | ((with_reducible apply Or.inr); walk_at "hp")
      | ((with_reducible apply LenD.lst); walk_at "hp")
      | ((with_reducible apply LenD.tup); walk_at "hp")
      | ((with_reducible apply LenD.dic); walk_at "hp")
      | ((with_reducible apply LenD.str); walk_at "hp")
      | ((with_reducible apply mulR); decide)
      | ((with_reducible apply mulL); decide)
      | decide
      | omega)
local macro_rules
  | `(tactic| walk_at "ev") => `(tactic| ((fail_if_success (with_reducible apply ev_bad)); (fail_if_success (with_reducible apply et_bad)); (fail_if_success (with_reducible apply ea_bad)); (fail_if_success (with_reducible apply en_bad)); first
      | ((with_reducible apply ev_var); exact rfl)
      | (with_reducible exact ev_c)
      | (with_reducible exact ea_nil)
      | (with_reducible exact eo_none)
      | ((with_reducible apply eo_some) <;> try walk_at "ev")
      | ((with_reducible apply ea_cons) <;> try walk_at "ev")
      | ((with_reducible apply ev_inTup) <;> try walk_at "ev")
      | ((with_reducible apply ev_niTup) <;> try walk_at "ev")
      | ((with_reducible apply ev_ixP) <;> try walk_at "ev")
      | (with_reducible exact rv_isN)
      | (with_reducible exact rv_notN)
      | ((with_reducible apply ev_op) <;> try walk_at "ev")
      | (with_reducible exact rv_I0)
      | ((with_reducible apply rv_I) <;> try walk_at "hp")
      | ((with_reducible apply rv_eq); exact rfl)
      | ((with_reducible apply rv_ne); exact rfl)
      | ((with_reducible apply rv_addS) <;> try walk_at "hp")
      | ((with_reducible apply rv_ixL); walk_at "hp"; walk_at "hp")
      | ((with_reducible apply rv_ixT); walk_at "hp"; walk_at "hp")
      | ((with_reducible apply ev_cb) <;> try walk_at "ev")
      | ((with_reducible apply rc_len); walk_at "hp")
      | (with_reducible exact rc_ord)
      | ((with_reducible apply rc_str) <;> try walk_at "hp")
      | (with_reducible exact rc_int)
      | (with_reducible exact rc_intB)
      | (with_reducible exact rc_abs)
      | (with_reducible exact rc_max2)
      | (with_reducible exact rc_min2)
      | ((with_reducible apply ev_joinN) <;> try walk_at "ev")
      | ((with_reducible apply ev_m1) <;> try walk_at "ev")
      | ((with_reducible apply rm_strip) <;> try walk_at "hp")
      | (with_reducible exact rm_starts)
      | ((with_reducible apply rm_join) <;> try walk_at "hp")
      | ((with_reducible apply ev_slS) <;> try walk_at "ev")
      | ((with_reducible apply ev_dget) <;> try walk_at "ev")
      | ((with_reducible apply ev_din) <;> try walk_at "ev")
      | ((with_reducible apply ev_dnotin) <;> try walk_at "ev")
      | ((with_reducible apply ev_fld) <;> try walk_at "ev")
      | ((with_reducible apply et_test) <;> try walk_at "ev")
      | ((with_reducible apply et_B) <;> try walk_at "ev")
      | ((with_reducible apply et_and) <;> try walk_at "ev")
      | ((with_reducible apply et_or) <;> try walk_at "ev")
      | ((with_reducible apply et_not) <;> try walk_at "ev")
      | (with_reducible exact en_dnew)
      | (with_reducible exact et_yes)
      | ((with_reducible apply ex_tup) <;> try walk_at "ev")
      | ((with_reducible apply en_slL) <;> try walk_at "ev")
      | ((with_reducible apply en_split) <;> try walk_at "ev")
      | ((with_reducible apply en_part) <;> try walk_at "ev")
      | walk_at "hp"
      | ((with_reducible refine fun hb => ?_); try walk_at "ev")))
local macro_rules
  | `(tactic| walk_at "lcf") => `(tactic| first
      | (intro _ _ _ _ _; exact rfl)
      | (intro _ _ _ _ _; dsimp only [Cx.blk]; done)
      | (intro _ _ _ _ _; dsimp only [Cx.blk]; exact rfl))
def headP (p : Str) : Str := (Txt.partition p "/").1
def flatP (p : Str) : Bool := decide (V.str (Txt.partition p "/").2.1 = V.str "")
def fnd (t : Tb) : List (Str × Bool) := mrg [] ((ks (can t)).map fun p => (headP p, flatP p))
def nms (t : Tb) : List (Str × Bool) := rowsBy (fnd t)
def under (n p : Str) : Bool := Txt.startswith p (n ++ "/")
def restP (n p : Str) : Str := cutS p (some ((n.length : Int) + 1)) none
def partT (t : Tb) (n : Str) : Tb := mrg [] (((can t).filter fun r => under n r.1).map fun r => (restP n r.1, r.2))
section
variable {P : Program} {w : World} {K : PySem.W.Frag} {mg : Str → Option Value} {base : Heap} {k : Nat}
def spNamesIn (K : PySem.W.Frag) (P0 : Addr) : Sp := fun vs H Q _ => ∃ (d : Addr) (t : Tb), vs = [.ref d, .str ""] ∧ Rd H d (.dK (tD t)) ∧ TbOk t ∧ Tab P0 H ∧
  ∀ p ts H', H p = none → Ex H H' → H' p = some (.tup (ts.map V.ref)) → Paired (fun q (r : Str × Bool) => SqT K H' q [.str r.1, .bl r.2]) ts (nms t) → Q (.ref p) H'
abbrev enB (t : List (Str × Bool)) : List (Key × V) := en Sum.inr V.bl t
theorem names_in_ok (T : Md K mg base) (hk : 3 ≤ k) : CallOk P w K mg base k "names_in" ["table", "over"] (spNamesIn K T.P0) := by
  obtain ⟨k, rfl⟩ : ∃ j, k = j + 1 := ⟨k - 1, by omega⟩
  refine T.d_names_in.ok (N := ["table", "over", "found", "path", "rest", "name", "stroke", "more"]) sc_names_in (by rintro vs H Q E ⟨d, t, rfl, -⟩; rfl) ?_
  rintro f cdv A outer s H vs Q E hr ⟨d, t, rfl, hd, ok, tab, q⟩
  refine ⟨_, (pss_cons (ps_set (i := 2) sc_names_in.nd rfl (Or.inl rfl) pe_dnewK)
    (pss_cons (ps_un (ps_for PassesOwn.never rfl (pi_keys (pe_lkA (pe_c (check_folder_ok T (by omega)) hr (by rfl) (pa_cons (pv 0) pa_nil)))) (pg_name (i := 3) sc_names_in.nd rfl (Or.inl rfl))
      (pss_one (ps_if (PW.pt (pw_or (pt_cmpR op_eq (pv 1) pe_str (nomark _)) (pw_or1 (pt_val (s_startswith (pv 3) (pe_op op_add_str (pv 1) pe_str)))))) (pss_cons (ps_set (i := 4) sc_names_in.nd rfl (Or.inl rfl) (pe_ifExp (pt_cmpR op_eq (pv 1) pe_str (nomark _)) (pv 3) (pe_slice sl_str (pv 3) (po_some (pe_op op_add (b_len T.b (pa_cons (pv 1) pa_nil)) pe_int)) po_none)))
        (pss_cons (ps_asg (s_partition (pv 4) pe_str) (pg_tup (n := 3) rfl (pgs_cons (pg_name (i := 5) sc_names_in.nd rfl (Or.inl rfl)) (pgs_cons (pg_name (i := 6) sc_names_in.nd rfl (Or.inl rfl)) (pgs_cons (pg_name (i := 7) sc_names_in.nd rfl (Or.inl rfl)) pgs_nil)))))
        (pss_one (ps_dput (hu_of hr) (pv 2) (pv 5) (pe_cmpR op_eq (pv 6) pe_str (nomark _)) rfl)))) pss_nil))))
    (pss_one (ps_ret (b_tupleL T.b (pa_cons (b_sorteditems T.b (hu64_of hr) (pv 2)) pa_nil)))))), ?_⟩
  refine q_asgN (by walk_at "ev") fun F H1 hF e1 h1 => ?_
  have hz0 : (can t).length ≤ 100 := by rw [len_can]; exact ok.few
  refine s_forK (N := NF _) (C := fun p => H1 p = none) (kvs := tD (can t)) (fun Q' q' => (en_cl mono_cf (by walk_at "ev") ⟨d, t, rfl, ex_rd e1 hd, ok, tab.ex e1, rfl⟩ : EvN _ _ H1 _) _ (Ex.refl _) _ fun p H2 hn e2 h2 => q' p H2 hn e2 (rd_of h2)) fun d' H2 B od hn e2 l => ?_
  have hF2 : F ≠ d' := fun z => by rw [← z, h1] at hn; cases hn
  have hn' : H d' = none := fresh_back e1 hn
  have eB : Ex H B := l.new (e1.trans e2) hn'
  refine ⟨fun i σ' H' => Ex H H' ∧ H' d' = some (.frz od (.dK (tD (can t)))) ∧ H' F = some (.dK (enB (mrg [] (((ks (can t)).take i).map fun p => (headP p, flatP p))))) ∧ ∃ u3 u4 u5 u6 u7, σ' = [some (.ref d), some (.str ""), some (.ref F), u3, u4, u5, u6, u7], ⟨eB, l.there, ?_, _, _, _, _, _, rfl⟩, fun i σ' H' h => h.2.1, ?_, ?_⟩
  · rw [l.off F hF2]
    exact e2 _ _ h1
  · rintro i kk vv σ' H' hi ⟨e, hd', hF', u3, u4, u5, u6, u7, rfl⟩
    obtain ⟨r, hr1, hr2, rfl, rfl⟩ := en_at hi
    refine s_if (b := true) (et_is (et_or (b := false) (by walk_at "ev") (fun z => by simp at z)) (by simp)) (fun _ H3 e3 => ?_) (by simp)
    refine q_asg (ev_if (b := true) (et_is (by walk_at "ev") (by simp)) (fun _ => by walk_at "ev") (by simp)) fun H4 e4 => ?_
    have hp1 : r.1 ∈ ks t := by
      have z : r.1 ∈ ks (can t) := List.mem_map.mpr ⟨r, hr1, rfl⟩
      rw [ks_can] at z
      exact mem_sortS.mp z
    have hz : r.1.length ≤ sizeLine := sz_of (by have := (ok.path _ hp1).1.1; omega)
    refine q_asgT3 (ex_N (en_part (by walk_at "ev") (by walk_at "ev") (by decide) hz)) fun H5 e5 => ?_
    have e35 := (e3.trans e4).trans e5
    have e6 := e.trans e35
    refine s_dput (k := .inr (headP r.1)) (by walk_at "ev") (by walk_at "ev") (by walk_at "ev") (e35 _ _ hF') ?_ fun H6 e7 => ?_
    · rw [en_len]
      have g1 := len_mrg (((ks (can t)).take i).map fun p => (headP p, flatP p)) []
      rw [List.length_map, List.length_take] at g1
      have g2 : (ks (can t)).length ≤ 100 := by unfold ks; rw [List.length_map]; exact hz0
      exact sz_lt (by simp only [List.length_nil] at g1; omega)
    · refine ⟨Ex.mut (e6.trans e7) hF, by rw [upd_ne (Ne.symm hF2)]; exact e7 _ _ (e35 _ _ hd'), ?_, _, _, _, _, _, rfl⟩
      rw [upd_same, take_map_succ _ (ks_at hr2), mrg_snoc]
      exact congrArg (fun z => some (HO.dK z)) (en_put inr_inj' _ (headP r.1) (flatP r.1))
  · rintro σ' H' ⟨e, hd', hF', u3, u4, u5, u6, u7, rfl⟩ Hf g1 g2
    dsimp only
    have eF : Ex H Hf := ex_un e hn' g1
    have e0 : (ks (can t)).take (tD (can t)).length = ks (can t) := List.take_of_length_le (by rw [en_len]; simp [ks])
    rw [e0] at hF'
    have hF3 : Hf F = some (.dK (enB (fnd t))) := by rw [g1 F hF2]; exact hF'
    refine s_retP (ep_tup (S := fun xs H' => ∃ ts : List Addr, xs = ts.map V.ref ∧ Paired (fun q (r : Str × Bool) => SqT K H' q [.str r.1, .bl r.2]) ts (nms t)) (fun xs H H' e ⟨ts, a, b⟩ => ⟨ts, a, gv_pair (fun _ _ h => ex_t e h) b⟩) (EvP.imp (en_sorteditems (db := PyData.bool) (fun _ _ => by simp [PySem.W.alike]) (fun b _ => .bl b) (fun _ => by simp [PyData.depth]) (fun a b z => by cases z; rfl) (nd_mrg _ [] (by simp [ks])) ?hev (rd_of hF3)) fun p H' _ ⟨ts, a, b⟩ => ⟨_, a, ts, rfl, gv_pair (fun _ _ h => st_of h) b⟩)) fun L H2 hL e3 hr => ?_
    case hev => exact ev_var rfl
    obtain ⟨_, h4, ts, rfl, hP⟩ := hr
    exact q L ts _ (fresh_back eF hL) (eF.trans e3) h4 hP
def sPartOf (P0 : Addr) : List V → Hp → HO → Prop := fun vs H o => ∃ (d : Addr) (t : Tb) (n : Str), vs = [.ref d, .str n] ∧ Rd H d (.dK (tD t)) ∧ TbOk t ∧ Tab P0 H ∧ n.length ≤ 1000 ∧ n ≠ "" ∧ o = .dK (tD (partT t n))
theorem mono_po {P0 : Addr} : Mono (sPartOf P0) := fun _ _ _ _ e ⟨d, t, n, a, b, c, f, g⟩ => ⟨d, t, n, a, ex_rd e b, c, f.ex e, g⟩
theorem part_of_ok (T : Md K mg base) (hk : 3 ≤ k) : CallOk P w K mg base k "part_of" ["table", "over"] (spN (sPartOf T.P0)) := by
  obtain ⟨k, rfl⟩ : ∃ j, k = j + 1 := ⟨k - 1, by omega⟩
  refine T.d_part_of.ok (N := ["table", "over", "folder", "path"]) sc_part_of (by rintro vs H Q E ⟨o, ⟨d, t, n, rfl, -⟩, -⟩; rfl) ?_
  rintro f cdv A outer s H vs Q E hr ⟨o, ⟨d, t, n, rfl, hd, ok, tab, hn, hne, rfl⟩, q⟩
  refine ⟨_, (pss_cons (ps_set (i := 2) sc_part_of.nd rfl (Or.inr rfl) (pe_c (check_folder_ok T (by omega)) hr (by rfl) (pa_cons (pv 0) pa_nil)))
    (pss_cons (ps_if (pt_cmpR op_eq (pv 1) pe_str (nomark _)) (pss_one (ps_ret (pv 2))) pss_nil)
    (pss_one (ps_ret (b_dictL T.b (pa_cons (pe_un (pe_lcF (own := [("path", 3)]) rfl sc_part_of.nd (pi_keys (pe_lkA (pv 2))) (blkOk_by (own := [("path", 3)]) (N := ["table", "over", "folder", "path"]) (sc := defScope st_part_of) (by decide +kernel)) (fun _ _ _ _ _ => (by exact (pg_name (i := 3) sc_part_of.nd rfl (Or.inl rfl)))) (fun _ _ _ _ _ => (by exact (pts_one (pt_val (s_startswith (pv 3) (pe_op op_add_str (pv 1) pe_str)))))) (fun _ _ _ _ _ => (by exact (pe_tup (pa_cons (pe_slice sl_str (pv 3) (po_some (pe_op op_add (b_len T.b (pa_cons (pv 1) pa_nil)) pe_int)) po_none) (pa_cons (pe_dget (hu_of hr) (pv 2) (pv 3) (fun _ _ => rfl)) pa_nil))))) (by walk_at "lcf") (by walk_at "lcf") (by walk_at "lcf"))) pa_nil)))))), ?_⟩
  have hz0 : (can t).length ≤ 100 := by rw [len_can]; exact ok.few
  have hzn : n.length ≤ sizeLine := sz_of (by omega)
  refine q_asgN (en_cl mono_cf (by walk_at "ev") ⟨d, t, rfl, hd, ok, tab, rfl⟩) fun p H1 hp e1 h1 => ?_
  refine q_when (b := false) (et_is (by walk_at "ev") (by simpa using fun z => hne (by cases z; rfl))) (by simp) fun _ H2 e2 => ?_
  have e0 : mergeK [] (((can t).filter fun r => under n r.1).map fun r => ((Sum.inr (restP n r.1) : Key), V.str r.2)) = tD (partT t n) := by
    have z := en_merge0 (ka := Sum.inr) (vb := V.str) inr_inj' (((can t).filter fun r => under n r.1).map fun r => (restP n r.1, r.2))
    unfold partT
    refine Eq.trans ?_ z
    unfold en
    rw [List.map_map]
    rfl
  refine s_retN (en_is (en_dictP (kv := fun r => ((Sum.inr (restP n r.1) : Key), V.str r.2)) (lc_D (ka := Sum.inr) (vb := V.str) (fun d => d = p) (can t) (fun r => under n r.1) _ ?_ (by omega) (fun _ => rfl) m_tup ?_)) (congrArg HO.dK e0)) fun p2 H3 hp2 e3 h3 => q p2 H3 (fresh_back (e1.trans e2) hp2) ((e1.trans e2).trans e3) h3
  · exact EvX.imp (ev_x (ev_var rfl)) fun v H' e' hv => ⟨p, hv, rfl, ex_rd e' (ex_rd e2 (rd_of h1))⟩
  · rintro d' H3 B od rfl e3 l r hr
    have hp1 : r.1 ∈ ks t := by
      have z : r.1 ∈ ks (can t) := List.mem_map.mpr ⟨r, hr, rfl⟩
      rw [ks_can] at z
      exact mem_sortS.mp z
    have hz : r.1.length ≤ sizeLine := sz_of (by have := (ok.path _ hp1).1.1; omega)
    have hB : Rd B d' (.dK (tD (can t))) := l.dic (ex_rd e3 (ex_rd e2 (rd_of h1)))
    have hv : lk (can t) r.1 = some r.2 := lk_of (nd_can ok.nd) hr
    have hs1 : ("/" : Str).length = 1 := by decide
    have hz2 : n.length + ("/" : Str).length ≤ sizeLine := sz_of (by omega)
    refine ⟨et_is (b := Txt.startswith r.1 (n ++ "/")) (by walk_at "ev") rfl, fun _ => ex_tup (ea_cons (ev_is (v := .str (cutS r.1 (some ((n.length : Int) + 1)) none)) (by walk_at "ev") rfl) (ea_cons (ev_dget (k := .inr r.1) (ev_var rfl) (ev_var rfl) hB (by rw [en_look inr_inj', hv]; rfl)) ea_nil)) (by simp)⟩
end
end Kw


set_option Elab.async false
set_option linter.all false
set_option maxRecDepth 100000
set_option maxHeartbeats 4000000
/-! Sto: the store: find, put, get, drop, names. -/
namespace Kw
open PySem PySem.Spec PyProof.Rows L2 Evl
local macro_rules
  | `(tactic| walk_at "hp") => `(tactic| first
      | exact prp (by assumption)
      | exact rfl
      | exact upd_same
      | ((with_reducible apply sq_of); first | assumption | exact upd_same)
      | ((with_reducible apply st_of); first | assumption | exact upd_same)
      | ((with_reducible apply rd_of); first | assumption | exact upd_same)
      | ((with_reducible apply ex_l); assumption; walk_at "hp")
      | ((with_reducible apply ex_t); assumption; walk_at "hp")
      | ((with_reducible apply ex_rd); assumption; walk_at "hp")
      | ((with_reducible apply ex_at); assumption; walk_at "hp")
      | ((with_reducible apply Or.inl); walk_at "hp")
      | ((with_reducible apply Or.inr); walk_at "hp")
      | ((with_reducible apply LenD.lst); walk_at "hp")
      | ((with_reducible apply LenD.tup); walk_at "hp")
      | ((with_reducible apply LenD.dic); walk_at "hp")
      | ((with_reducible apply LenD.str); walk_at "hp")
      | ((with_reducible apply mulR); decide)
      | ((with_reducible apply mulL); decide)
      | decide
      | omega)
local macro_rules
  | `(tactic| walk_at "ev") => `(tactic| ((fail_if_success (with_reducible apply ev_bad)); (fail_if_success (with_reducible apply et_bad)); (fail_if_success (with_reducible apply ea_bad)); (fail_if_success (with_reducible apply en_bad)); first
      | ((with_reducible apply ev_var); exact rfl)
      | (with_reducible exact ev_c)
      | (with_reducible exact ea_nil)
      | (with_reducible exact eo_none)
      | ((with_reducible apply eo_some) <;> try walk_at "ev")
      | ((with_reducible apply ea_cons) <;> try walk_at "ev")
      | ((with_reducible apply ev_inTup) <;> try walk_at "ev")
      | ((with_reducible apply ev_niTup) <;> try walk_at "ev")
      | ((with_reducible apply ev_ixP) <;> try walk_at "ev")
      | (with_reducible exact rv_isN)
      | (with_reducible exact rv_notN)
      | ((with_reducible apply ev_op) <;> try walk_at "ev")
      | (with_reducible exact rv_I0)
      | ((with_reducible apply rv_I) <;> try walk_at "hp")
      | ((with_reducible apply rv_eq); exact rfl)
      | ((with_reducible apply rv_ne); exact rfl)
      | ((with_reducible apply rv_addS) <;> try walk_at "hp")
      | ((with_reducible apply rv_ixL); walk_at "hp"; walk_at "hp")
      | ((with_reducible apply rv_ixT); walk_at "hp"; walk_at "hp")
      | ((with_reducible apply ev_cb) <;> try walk_at "ev")
      | ((with_reducible apply rc_len); walk_at "hp")
      | (with_reducible exact rc_ord)
      | ((with_reducible apply rc_str) <;> try walk_at "hp")
      | (with_reducible exact rc_int)
      | (with_reducible exact rc_intB)
      | (with_reducible exact rc_abs)
      | (with_reducible exact rc_max2)
      | (with_reducible exact rc_min2)
      | ((with_reducible apply ev_joinN) <;> try walk_at "ev")
      | ((with_reducible apply ev_m1) <;> try walk_at "ev")
      | ((with_reducible apply rm_strip) <;> try walk_at "hp")
      | (with_reducible exact rm_starts)
      | ((with_reducible apply rm_join) <;> try walk_at "hp")
      | ((with_reducible apply ev_slS) <;> try walk_at "ev")
      | ((with_reducible apply ev_dget) <;> try walk_at "ev")
      | ((with_reducible apply ev_din) <;> try walk_at "ev")
      | ((with_reducible apply ev_dnotin) <;> try walk_at "ev")
      | ((with_reducible apply ev_fld) <;> try walk_at "ev")
      | ((with_reducible apply et_test) <;> try walk_at "ev")
      | ((with_reducible apply et_B) <;> try walk_at "ev")
      | ((with_reducible apply et_and) <;> try walk_at "ev")
      | ((with_reducible apply et_or) <;> try walk_at "ev")
      | ((with_reducible apply et_not) <;> try walk_at "ev")
      | (with_reducible exact en_dnew)
      | (with_reducible exact et_yes)
      | ((with_reducible apply ex_tup) <;> try walk_at "ev")
      | ((with_reducible apply en_slL) <;> try walk_at "ev")
      | ((with_reducible apply en_split) <;> try walk_at "ev")
      | ((with_reducible apply en_part) <;> try walk_at "ev")
      | walk_at "hp"
      | ((with_reducible refine fun hb => ?_); try walk_at "ev")))
local macro_rules
  | `(tactic| walk_at "lcf") => `(tactic| first
      | (intro _ _ _ _ _; exact rfl)
      | (intro _ _ _ _ _; dsimp only [Cx.blk]; done)
      | (intro _ _ _ _ _; dsimp only [Cx.blk]; exact rfl))
def numS (n : Nat) : Str := Str.ofString (toString ((n : Nat) : Int))
def headS (x : Str) : Str := numS (figL (TL.tl x))
def nameOf (x : Str) (n : Nat) : Str := headS x ++ "." ++ numS n
theorem tl_numS (n : Nat) : TL.tl (numS n) = TL.numL n := TL.tl_num n
theorem numS_inj {m n : Nat} (h : numS m = numS n) : m = n := TL.numL_inj (by rw [← tl_numS, ← tl_numS, h])
theorem dot_tl : TL.tl ("." : Str) = [46] := by decide
theorem nameOf_part (x : Str) (n : Nat) : Txt.partition (nameOf x n) "." = (headS x, (".": Str), numS n) :=
  TL.partition_app (a := headS x) (s := 46) (S := []) dot_tl (by unfold headS; rw [tl_numS]; exact TL.numL_free (by decide))
theorem nameOf_num {x : Str} {m n : Nat} (h : nameOf x m = nameOf x n) : m = n := by
  have e := nameOf_part x m
  rw [h, nameOf_part] at e
  exact (numS_inj (congrArg (fun z => z.2.2) e)).symm
theorem nameOf_head {x y : Str} {m n : Nat} (h : nameOf x m = nameOf y n) : headS x = headS y := by
  have e := nameOf_part x m
  rw [h, nameOf_part] at e
  exact (congrArg (fun z => z.1) e).symm
theorem numS_len {n k : Nat} (hk : 0 < k) (h : n < 10 ^ k) : (numS n).length ≤ k := by
  rw [len_tl', tl_numS]
  exact TL.numL_len hk h
theorem len_app (a b : Str) : (a ++ b).length = a.length + b.length := by rw [len_tl', TL.tl_append, List.length_append, ← len_tl', ← len_tl']
theorem nameOf_len {x : Str} {n : Nat} (h : n < 1000000) : (nameOf x n).length ≤ 20 := by
  unfold nameOf
  rw [len_app, len_app]
  have h1 : (headS x).length ≤ 7 := numS_len (by decide) (Nat.lt_of_lt_of_le (figL_lt _) (by decide))
  have h2 : (numS n).length ≤ 6 := numS_len (by decide) (Nat.lt_of_lt_of_le h (by decide))
  have h3 : ("." : Str).length = 1 := by decide
  omega
theorem log_small {n : Nat} (h : n < 10000000) : ((n : Int)).natAbs.log2 < 1920 := by
  rw [Int.natAbs_natCast]
  by_cases z : n = 0
  · subst z; decide
  · rw [Nat.log2_lt z]
    exact Nat.lt_of_lt_of_le h (Nat.le_trans (by decide : 10000000 ≤ 2 ^ 30) (Nat.pow_le_pow_right (by decide) (by decide)))
/-- the store's rows: each piece once, by a name that its figure begins -/
structure WF (S : Tb) : Prop where
  nd : (ks S).Nodup
  pd : (S.map Prod.snd).Nodup
  nm : ∀ r ∈ S, ∃ n, r.1 = nameOf r.2 n ∧ n < 1000000
  sz : ∀ r ∈ S, r.2.length ≤ 5000
  few : S.length ≤ 90000
/-- the name of a piece -/
def nmOf (S : Tb) (x : Str) : Option Str := (S.find? fun r => decide (r.2 = x)).map Prod.fst
theorem nmOf_mem {S : Tb} {x nm : Str} (h : nmOf S x = some nm) : (nm, x) ∈ S := by
  unfold nmOf at h
  cases e : S.find? fun r => decide (r.2 = x) with
  | none => rw [e] at h; cases h
  | some r =>
    rw [e] at h
    cases h
    have h1 := List.mem_of_find?_eq_some e
    have h2 : r.2 = x := by simpa using List.find?_some e
    rw [← h2]; exact h1
theorem nmOf_none {S : Tb} {x : Str} (h : nmOf S x = none) : x ∉ S.map Prod.snd := by
  unfold nmOf at h
  intro hx
  obtain ⟨r, hr, rfl⟩ := List.mem_map.mp hx
  have e : S.find? (fun r' => decide (r'.2 = r.2)) = none := by
    cases e : S.find? (fun r' => decide (r'.2 = r.2)) with
    | none => rfl
    | some y => rw [e] at h; cases h
  rw [List.find?_eq_none] at e
  exact e r hr (by simp)
theorem nmOf_of {S : Tb} (n : (S.map Prod.snd).Nodup) {x nm : Str} (h : (nm, x) ∈ S) : nmOf S x = some nm := by
  induction S with
  | nil => cases h
  | cons r S ih =>
    have n' := List.nodup_cons.mp n
    unfold nmOf
    rw [List.find?_cons]
    by_cases c : r.2 = x
    · rcases List.mem_cons.mp h with e | h'
      · rw [← e]; simp
      · exact absurd (c ▸ List.mem_map.mpr ⟨_, h', rfl⟩) n'.1
    · simp only [c, decide_false]
      rcases List.mem_cons.mp h with e | h'
      · exact absurd (by rw [← e]) c
      · exact ih n'.2 h'
section
variable {P : Program} {w : World} {K : PySem.W.Frag} {mg : Str → Option Value} {base : Heap} {k : Nat}
/-- the store at st with the rows S at d -/
def Sto (C st d : Addr) (H : Hp) (S : Tb) : Prop := (∃ dx, H st = some (.ins C dx [("pieces", .ref d)])) ∧ H d = some (.dK (tD S))
theorem Sto.ex {C st d : Addr} {H H' : Hp} {S : Tb} (e : Ex H H') (h : Sto C st d H S) : Sto C st d H' S := ⟨let ⟨dx, g⟩ := h.1; ⟨dx, e _ _ g⟩, e _ _ h.2⟩
def optV : Option Str → V | some x => .str x | none => .non
def sFind (C : Addr) : List V → Hp → V → Prop := fun vs H v => ∃ (st d : Addr) (S : Tb) (x : Str), vs = [.ref st, .str x] ∧ Sto C st d H S ∧ WF S ∧ v = optV (nmOf S x)
theorem mono_find {C : Addr} : Mono (sFind C) := fun _ _ _ _ e ⟨st, d, S, x, a, b, c⟩ => ⟨st, d, S, x, a, b.ex e, c⟩
theorem Store_find_ok (T : Md K mg base) (hk : 2 ≤ k) : MethOk P w K mg base T.C_Store k "find" ["self", "piece"] (spV (sFind T.C_Store)) := by
  obtain ⟨k, rfl⟩ : ∃ j, k = j + 1 := ⟨k - 1, by omega⟩
  refine T.md_Store_find.ok (N := ["self", "piece", "head", "name"]) sc_Store_find (by rintro vs H Q E ⟨v, ⟨st, d, S, x, rfl, -⟩, -⟩; rfl) ?_
  rintro f cdv A outer s H vs Q E hr ⟨v, ⟨st, d, S, x, rfl, ⟨⟨dx, hs⟩, hd⟩, wf, rfl⟩, q⟩
  refine ⟨_, (pss_cons (ps_set (i := 2) sc_Store_find.nd rfl (Or.inl rfl) (b_str T.b (pa_cons (pe_c (figure_ok T (by omega)) hr (by rfl) (pa_cons (pv 1) pa_nil)) pa_nil)))
    (pss_cons (ps_for PassesOwn.never rfl (pi_list (b_sortedD T.b (hu64_of hr) (pa_cons (pe_fld (pv 0) rfl) pa_nil))) (pg_name (i := 3) sc_Store_find.nd rfl (Or.inl rfl))
      (pss_one (ps_if (PW.pt (pw_and (pt_cmpR op_eq (pe_ix ix_tup (s_partition (pv 3) pe_str) pe_int (fun _ _ => rfl)) (pv 2) (nomark _)) (pw_and1 (pt_cmpR op_eq (pe_dget (hu_of hr) (pe_fld (pv 0) rfl) (pv 3) (fun _ _ => rfl)) (pv 1) (nomark _))))) (pss_one (ps_ret (pv 3))) pss_nil)))
    (pss_one (ps_ret pe_non)))), ?_⟩
  have hc := T.cl_Store
  have hn := T.na_Store_pieces
  refine q_asg (v := .str (headS x)) (ev_cb (ea_cons (ev_cl (R := sFigure) (fun _ _ _ _ _ h => h) (by walk_at "ev") ⟨x, rfl, rfl⟩) ea_nil) (rc_str (log_small (Nat.lt_of_lt_of_le (figL_lt _) (by decide))))) fun H1 e1 => ?_
  refine q_forN (en_srtDS (by walk_at "ev") (ex_rd e1 (rd_of hd)) (en_keys S)) (fun p i σ' H' => Ex H H' ∧ SqL K H' p ((sortS (ks S)).map V.str) ∧ (∀ nm ∈ (sortS (ks S)).take i, lk S nm ≠ some x) ∧ ∃ u, σ' = [some (.ref st), some (.str x), some (.str (headS x)), u]) ?_ ?_ ?_ ?_
  · intro p H2 hp e2 h2
    exact ⟨e1.trans e2, sq_of h2, by simp, _, rfl⟩
  · rintro p i σ' H' _ ⟨_, h, _⟩
    exact h
  · rintro p i y σ' H' hi ⟨e, h, h0, u, rfl⟩
    obtain ⟨nm, hnm, hni, rfl⟩ := map_at' hi
    have hks := mem_sortS.mp hnm
    obtain ⟨y, hy⟩ := mem_ks hks
    obtain ⟨n, hn1, hn2⟩ := wf.nm _ (lk_mem hy)
    have hzn : nm.length ≤ sizeLine := sz_of (Nat.le_trans (show nm.length ≤ 20 from by have := nameOf_len (x := y) hn2; rw [← hn1] at this; exact this) (by decide))
    have ep : Txt.partition nm "." = (headS y, (".": Str), numS n) := by rw [show nm = nameOf y n from hn1]; exact nameOf_part y n
    refine s_when (b := decide (V.str (headS y) = V.str (headS x)) && decide (V.str y = V.str x)) (et_and ?_ fun _ => ?_) (fun hb H2 e2 => ?_) (fun hb H2 e2 => ?_)
    · rw [show headS y = (Txt.partition nm ".").1 from by rw [ep]]
      walk_at "ev"
    · exact et_is (et_test (ev_op (ev_dget (k := .inr nm) (by walk_at "ev") (by walk_at "ev") (ex_rd e (rd_of hd)) (by rw [en_look inr_inj', hy]; rfl)) (ev_var rfl) (rv_eq rfl))) rfl
    · rw [Bool.and_eq_true, decide_eq_true_eq, decide_eq_true_eq] at hb
      have hyx : y = x := by cases hb.2; rfl
      refine s_ret (v := .str nm) (by walk_at "ev") fun H3 e3 => ?_
      have z := nmOf_of wf.pd (hyx ▸ lk_mem hy)
      have q' := q H3 ((e.trans e2).trans e3)
      rw [z] at q'
      exact q'
    · refine ⟨e.trans e2, ex_l e2 h, fun nm' hm => ?_, _, rfl⟩
      obtain ⟨hlt, rfl⟩ := List.getElem?_eq_some_iff.mp hni
      rw [List.take_succ_eq_append_getElem hlt] at hm
      rcases List.mem_append.mp hm with hm | hm
      · exact h0 _ hm
      · rw [List.mem_singleton.mp hm, hy]
        intro z
        cases z
        rw [Bool.and_eq_false_iff] at hb
        rcases hb with hb | hb <;> simp at hb
  · rintro p σ' H' ⟨e, h, h0, u, rfl⟩
    rw [List.length_map, List.take_length] at h0
    refine s_ret (v := .non) (by walk_at "ev") fun H3 e3 => ?_
    have z : nmOf S x = none := by
      cases ez : nmOf S x with
      | none => rfl
      | some nm => exact absurd (lk_of wf.nd (nmOf_mem ez)) (h0 nm (mem_sortS.mpr (ks_mem (nmOf_mem ez))))
    have q' := q H3 (e.trans e3)
    rw [z] at q'
    exact q'
def sNames (C : Addr) : List V → Hp → HO → Prop := fun vs H o => ∃ (st d : Addr) (S : Tb), vs = [.ref st] ∧ Sto C st d H S ∧ o = .tup ((sortS (ks S)).map V.str)
theorem mono_names {C : Addr} : Mono (sNames C) := fun _ _ _ _ e ⟨st, d, S, a, b, c⟩ => ⟨st, d, S, a, b.ex e, c⟩
theorem Store_names_ok (T : Md K mg base) (hk : 1 ≤ k) : MethOk P w K mg base T.C_Store k "names" ["self"] (spN (sNames T.C_Store)) := by
  obtain ⟨k, rfl⟩ : ∃ j, k = j + 1 := ⟨k - 1, by omega⟩
  refine T.md_Store_names.ok (N := ["self"]) sc_Store_names (by rintro vs H Q E ⟨v, ⟨st, d, S, rfl, -⟩, -⟩; rfl) ?_
  rintro f cdv A outer s H vs Q E hr ⟨v, ⟨st, d, S, rfl, ⟨⟨dx, hs⟩, hd⟩, rfl⟩, q⟩
  refine ⟨_, (pss_one (ps_ret (b_tupleL T.b (pa_cons (b_sortedD T.b (hu64_of hr) (pa_cons (pe_fld (pv 0) rfl) pa_nil)) pa_nil)))), ?_⟩
  have hc := T.cl_Store
  have hn := T.na_Store_pieces
  exact s_retN (en_tupN (en_srtDS (by walk_at "ev") (rd_of hd) (en_keys S))) fun p H1 hp e1 h1 => q p H1 hp e1 h1
end
end Kw


set_option Elab.async false
set_option linter.all false
set_option maxRecDepth 100000
set_option maxHeartbeats 4000000
/-! Sto2: put, get, drop, __init__. -/
namespace Kw
open PySem PySem.Spec PyProof.Rows L2 Evl
local macro_rules
  | `(tactic| walk_at "hp") => `(tactic| first
      | exact prp (by assumption)
      | exact rfl
      | exact upd_same
      | ((with_reducible apply sq_of); first | assumption | exact upd_same)
      | ((with_reducible apply st_of); first | assumption | exact upd_same)
      | ((with_reducible apply rd_of); first | assumption | exact upd_same)
      | ((with_reducible apply ex_l); assumption; walk_at "hp")
      | ((with_reducible apply ex_t); assumption; walk_at "hp")
      | ((with_reducible apply ex_rd); assumption; walk_at "hp")
      | ((with_reducible apply ex_at); assumption; walk_at "hp")
      | ((with_reducible apply Or.inl); walk_at "hp")
      | ((with_reducible apply Or.inr); walk_at "hp")
      | ((with_reducible apply LenD.lst); walk_at "hp")
      | ((with_reducible apply LenD.tup); walk_at "hp")
      | ((with_reducible apply LenD.dic); walk_at "hp")
      | ((with_reducible apply LenD.str); walk_at "hp")
      | ((with_reducible apply mulR); decide)
      | ((with_reducible apply mulL); decide)
      | decide
      | omega)
local macro_rules
  | `(tactic| walk_at "ev") => `(tactic| ((fail_if_success (with_reducible apply ev_bad)); (fail_if_success (with_reducible apply et_bad)); (fail_if_success (with_reducible apply ea_bad)); (fail_if_success (with_reducible apply en_bad)); first
      | ((with_reducible apply ev_var); exact rfl)
      | (with_reducible exact ev_c)
      | (with_reducible exact ea_nil)
      | (with_reducible exact eo_none)
      | ((with_reducible apply eo_some) <;> try walk_at "ev")
      | ((with_reducible apply ea_cons) <;> try walk_at "ev")
      | ((with_reducible apply ev_inTup) <;> try walk_at "ev")
      | ((with_reducible apply ev_niTup) <;> try walk_at "ev")
      | ((with_reducible apply ev_ixP) <;> try walk_at "ev")
      | (with_reducible exact rv_isN)
      | (with_reducible exact rv_notN)
      | ((with_reducible apply ev_op) <;> try walk_at "ev")
      | (with_reducible exact rv_I0)
      | ((with_reducible apply rv_I) <;> try walk_at "hp")
      | ((with_reducible apply rv_eq); exact rfl)
      | ((with_reducible apply rv_ne); exact rfl)
      | ((with_reducible apply rv_addS) <;> try walk_at "hp")
      | ((with_reducible apply rv_ixL); walk_at "hp"; walk_at "hp")
      | ((with_reducible apply rv_ixT); walk_at "hp"; walk_at "hp")
      | ((with_reducible apply ev_cb) <;> try walk_at "ev")
      | ((with_reducible apply rc_len); walk_at "hp")
      | (with_reducible exact rc_ord)
      | ((with_reducible apply rc_str) <;> try walk_at "hp")
      | (with_reducible exact rc_int)
      | (with_reducible exact rc_intB)
      | (with_reducible exact rc_abs)
      | (with_reducible exact rc_max2)
      | (with_reducible exact rc_min2)
      | ((with_reducible apply ev_joinN) <;> try walk_at "ev")
      | ((with_reducible apply ev_m1) <;> try walk_at "ev")
      | ((with_reducible apply rm_strip) <;> try walk_at "hp")
      | (with_reducible exact rm_starts)
      | ((with_reducible apply rm_join) <;> try walk_at "hp")
      | ((with_reducible apply ev_slS) <;> try walk_at "ev")
      | ((with_reducible apply ev_dget) <;> try walk_at "ev")
      | ((with_reducible apply ev_din) <;> try walk_at "ev")
      | ((with_reducible apply ev_dnotin) <;> try walk_at "ev")
      | ((with_reducible apply ev_fld) <;> try walk_at "ev")
      | ((with_reducible apply et_test) <;> try walk_at "ev")
      | ((with_reducible apply et_B) <;> try walk_at "ev")
      | ((with_reducible apply et_and) <;> try walk_at "ev")
      | ((with_reducible apply et_or) <;> try walk_at "ev")
      | ((with_reducible apply et_not) <;> try walk_at "ev")
      | (with_reducible exact en_dnew)
      | (with_reducible exact et_yes)
      | ((with_reducible apply ex_tup) <;> try walk_at "ev")
      | ((with_reducible apply en_slL) <;> try walk_at "ev")
      | ((with_reducible apply en_split) <;> try walk_at "ev")
      | ((with_reducible apply en_part) <;> try walk_at "ev")
      | walk_at "hp"
      | ((with_reducible refine fun hb => ?_); try walk_at "ev")))
local macro_rules
  | `(tactic| walk_at "lcf") => `(tactic| first
      | (intro _ _ _ _ _; exact rfl)
      | (intro _ _ _ _ _; dsimp only [Cx.blk]; done)
      | (intro _ _ _ _ _; dsimp only [Cx.blk]; exact rfl))
section
variable {P : Program} {w : World} {K : PySem.W.Frag} {mg : Str → Option Value} {base : Heap} {k : Nat}
def Put (S : Tb) (x : Str) (S' : Tb) (nm : Str) : Prop := (nmOf S x = some nm ∧ S' = S) ∨ (nmOf S x = none ∧ ∃ n, n ≤ S.length ∧ nm = nameOf x n ∧ nm ∉ ks S ∧ S' = S ++ [(nm, x)])
def spPut (C : Addr) : Sp := fun vs H Q _ => ∃ (st d : Addr) (S : Tb) (x : Str), vs = [.ref st, .str x] ∧ Sto C st d H S ∧ WF S ∧ x.length ≤ 5000 ∧ S.length < 90000 ∧
  ∀ nm S' H', Put S x S' nm → Exb d H H' → H' d = some (.dK (tD S')) → Q (.str nm) H'
abbrev rCatS : R2 := fun x y H Q => ∃ i j, x = .str i ∧ y = .str j ∧ i.length + j.length ≤ sizeLine ∧ Q (.str (i ++ j)) H
theorem ev_name {σ : L2.St} {H : Hp} {x : Str} {n i j : Nat} (h1 : σ[i]? = some (some (.str (headS x)))) (h2 : σ[j]? = some (some (.int (n : Int)))) (hn : n < 1000000) :
    Ev (tOp rCatS (tOp rCatS (tVar i) (tC (.str "."))) (tCB rStrI (tCons (tVar j) tNil))) σ H (.str (nameOf x n)) := by
  have l1 : (headS x).length ≤ 7 := numS_len (by decide) (Nat.lt_of_lt_of_le (figL_lt _) (by decide))
  have l2 : (numS n).length ≤ 6 := numS_len (by decide) (Nat.lt_of_lt_of_le hn (by decide))
  have l3 : ("." : Str).length = 1 := by decide
  refine ev_op (ev_op (ev_var h1) ev_c (rv_addS (sz_of (by omega)))) (ev_cb (ea_cons (ev_var h2) ea_nil) (rc_str (log_small (by omega)))) (rv_addS (sz_of ?_))
  rw [len_app]
  show (headS x).length + ("." : Str).length + (numS n).length ≤ 100000
  omega
theorem Store_put_ok (T : Md K mg base) (hk : 3 ≤ k) : MethOk P w K mg base T.C_Store k "put" ["self", "piece"] (spPut T.C_Store) := by
  obtain ⟨k, rfl⟩ : ∃ j, k = j + 1 := ⟨k - 1, by omega⟩
  refine T.md_Store_put.ok (N := ["self", "piece", "there", "head", "number"]) sc_Store_put (by rintro vs H Q E ⟨st, d, S, x, rfl, -⟩; rfl) ?_
  rintro f cdv A outer s H vs Q E hr ⟨st, d, S, x, rfl, ⟨⟨dx, hs⟩, hd⟩, wf, hx, hl, q⟩
  refine ⟨_, (pss_cons (ps_set (i := 2) sc_Store_put.nd rfl (Or.inl rfl) (pe_m T.cl_Store (Store_find_ok T (by omega)) hr (pv 0) (pa_cons (pv 1) pa_nil)))
    (pss_cons (ps_if (pt_cmpR op_notN (pv 2) pe_non (nomark _)) (pss_one (ps_ret (pv 2))) pss_nil)
    (pss_cons (ps_par (i := 3) (j := 4) rfl sc_Store_put.nd rfl rfl (by decide) rfl rfl (pa_cons (b_str T.b (pa_cons (pe_c (figure_ok T (by omega)) hr (by rfl) (pa_cons (pv 1) pa_nil)) pa_nil)) (pa_cons pe_int pa_nil)) (by rfl))
    (pss_cons (ps_while PassesOwn.never (pt_cmp (pc_din (hu_of hr) (pe_op op_add_str (pe_op op_add_str (pv 3) pe_str) (b_str T.b (pa_cons (pv 4) pa_nil))) (pe_fld (pv 0) rfl)))
      (pss_one (ps_aug (i := 4) sc_Store_put.nd rfl (Or.inl rfl) pe_int ip_add)))
    (pss_cons (ps_dput (hu_of hr) (pe_fld (pv 0) rfl) (pe_op op_add_str (pe_op op_add_str (pv 3) pe_str) (b_str T.b (pa_cons (pv 4) pa_nil))) (pv 1) rfl)
    (pss_one (ps_ret (pe_op op_add_str (pe_op op_add_str (pv 3) pe_str) (b_str T.b (pa_cons (pv 4) pa_nil)))))))))), ?_⟩
  have hc := T.cl_Store
  have hn := T.na_Store_pieces
  refine q_asg (ev_mt mono_find (by walk_at "ev") hs rfl (by walk_at "ev") ⟨st, d, S, x, rfl, ⟨⟨dx, hs⟩, hd⟩, wf, rfl⟩) fun H1 e1 => ?_
  cases hf : nmOf S x with
  | some nm =>
    refine q_when (b := true) (et_is (by walk_at "ev") (by rfl)) (fun _ H2 e2 => ?_) (by simp)
    refine s_ret (v := .str nm) (by walk_at "ev") fun H3 e3 => q nm S H3 (.inl ⟨hf, rfl⟩) (exb_of ((e1.trans e2).trans e3)) (((e1.trans e2).trans e3) _ _ hd)
  | none =>
    refine q_when (b := false) (et_is (by walk_at "ev") (by rfl)) (by simp) fun _ H2 e2 => ?_
    refine q_par (x := .str (headS x)) (y := .int 0) (ev_cb (ea_cons (ev_cl (R := sFigure) (fun _ _ _ _ _ h => h) (by walk_at "ev") ⟨x, rfl, rfl⟩) ea_nil) (rc_str (log_small (Nat.lt_of_lt_of_le (figL_lt _) (by decide))))) (by walk_at "ev") fun H3 e3 => ?_
    have e03 := (e1.trans e2).trans e3
    refine s_while' (fun m σ' H' => ∃ n : Nat, m = S.length + 1 - n ∧ n ≤ S.length ∧ Ex H H' ∧ (∀ j, j < n → nameOf x j ∈ ks S) ∧ σ' = [some (.ref st), some (.str x), some .non, some (.str (headS x)), some (.int (n : Int))]) (S.length + 1) ⟨0, by omega, by omega, e03, by simp, rfl⟩ ?_
    rintro m σ' H' ⟨n, rfl, hnl, e, hbel, rfl⟩
    refine ⟨decide (nameOf x n ∈ ks S), et_is (et_B (ev_din (k := .inr (nameOf x n)) (ev_name rfl rfl (by omega)) (by walk_at "ev") (ex_rd e (rd_of hd)))) (by rw [en_look inr_inj', Option.isSome_map, lk_isSome]), fun hb H4 e4 => ?_, fun hb H4 e4 => ?_⟩
    · rw [decide_eq_true_eq] at hb
      have hbel' : ∀ j, j < n + 1 → nameOf x j ∈ ks S := fun j hj => by
        by_cases z : j = n
        · rw [z]; exact hb
        · exact hbel j (by omega)
      have hpig : n + 1 ≤ S.length := by
        have z := nd_sub_len (xs := (List.range (n + 1)).map (nameOf x)) (ys := ks S) (by
          rw [List.nodup_iff_pairwise_ne, List.pairwise_map]
          exact (List.nodup_iff_pairwise_ne.mp List.nodup_range).imp fun h z => h (nameOf_num z)) (fun y hy => by
          obtain ⟨j, hj, rfl⟩ := List.mem_map.mp hy
          exact hbel' j (List.mem_range.mp hj))
        rw [List.length_map, List.length_range] at z
        simpa [ks] using z
      exact s_augV (x := .int (n : Int)) rfl ev_c rv_I0 fun H5 e5 => ⟨S.length + 1 - (n + 1), by omega, n + 1, rfl, hpig, (e.trans e4).trans e5, hbel', rfl⟩
    · rw [decide_eq_false_iff_not] at hb
      have e4' := e.trans e4
      refine q_dput (k := .inr (nameOf x n)) (v := .str x) (by walk_at "ev") (by walk_at "ev") (ev_name rfl rfl (by omega)) (e4' _ _ hd) (by rw [en_len]; exact sz_lt (by omega)) fun H5 e5 => ?_
      refine s_ret (ev_name rfl rfl (by omega)) fun H6 e6 => q (nameOf x n) (S ++ [(nameOf x n, x)]) H6 (.inr ⟨hf, n, hnl, rfl, hb, rfl⟩) ?_ ?_
      · exact (exb_upd (exb_of (e4'.trans e5))).trans (exb_of e6)
      · rw [e6 _ _ upd_same, ← pu_new hb]
        exact congrArg (fun z => some (HO.dK z)) (en_put inr_inj' S (nameOf x n) x)
def spGet (C N : Addr) : Sp := fun vs H Q E => ∃ (st d : Addr) (S : Tb) (nm : Str), vs = [.ref st, .str nm] ∧ Sto C st d H S ∧ WF S ∧ (∀ x, lk S nm = some x → ∀ H', Ex H H' → Q (.str x) H') ∧ (lk S nm = none → ∀ H', Ex H H' → E (.ref N) none H')
theorem Store_get_ok (T : Md K mg base) (hk : 2 ≤ k) : MethOk P w K mg base T.C_Store k "get" ["self", "name"] (spGet T.C_Store T.NoSuch) := by
  obtain ⟨k, rfl⟩ : ∃ j, k = j + 1 := ⟨k - 1, by omega⟩
  refine T.md_Store_get.okX (N := ["self", "name", "piece"]) sc_Store_get (by rintro vs H Q E ⟨st, d, S, x, rfl, -⟩; rfl) ?_
  rintro f cdv A outer s H vs Q E hr ⟨st, d, S, nm, rfl, ⟨⟨dx, hs⟩, hd⟩, wf, q, qe⟩
  refine ⟨_, (pss_cons (ps_if (pt_cmp (pc_dnotin (hu_of hr) (pv 1) (pe_fld (pv 0) rfl))) (pss_one (ps_raise rfl (takes_of rfl rfl rfl rfl) (pmk_own PySem.F.excBase_ValueError T.x_NoSuch T.g_NoSuch T.kp_NoSuch (raises_own T.b_NoSuch T.t_NoSuch) (by exact rfl)))) pss_nil)
    (pss_cons (ps_set (i := 2) sc_Store_get.nd rfl (Or.inl rfl) (pe_dget (hu_of hr) (pe_fld (pv 0) rfl) (pv 1) (fun _ _ => rfl)))
    (pss_cons (ps_if (pt_cmpR op_ne (pe_ix ix_tup (s_partition (pv 1) pe_str) pe_int (fun _ _ => rfl)) (b_str T.b (pa_cons (pe_c (figure_ok T (by omega)) hr (by rfl) (pa_cons (pv 2) pa_nil)) pa_nil)) (nomark _)) (pss_one ps_never) pss_nil)
    (pss_one (ps_ret (pv 2)))))), ?_⟩
  have hc := T.cl_Store
  have hn := T.na_Store_pieces
  refine q_when (b := !(lk S nm).isSome) (et_is (et_B (ev_dnotin (k := .inr nm) (by walk_at "ev") (by walk_at "ev") (rd_of hd))) (by rw [en_look inr_inj', Option.isSome_map])) (fun hb H2 e2 => ?_) fun hb H2 e2 => ?_
  · refine qe ?_ H2 e2
    cases e : lk S nm with
    | none => rfl
    | some x => rw [e] at hb; simp at hb
  · cases e : lk S nm with
    | none => rw [e] at hb; simp at hb
    | some x =>
      obtain ⟨n, hn1, hn2⟩ := wf.nm _ (lk_mem e)
      have hzn : nm.length ≤ sizeLine := sz_of (Nat.le_trans (show nm.length ≤ 20 from by have := nameOf_len (x := x) hn2; rw [← hn1] at this; exact this) (by decide))
      have ep : Txt.partition nm "." = (headS x, (".": Str), numS n) := by rw [show nm = nameOf x n from hn1]; exact nameOf_part x n
      refine q_asg (v := .str x) (ev_dget (k := .inr nm) (by walk_at "ev") (by walk_at "ev") (ex_rd e2 (rd_of hd)) (by rw [en_look inr_inj', e]; rfl)) fun H3 e3 => ?_
      refine q_when (b := false) (et_is (b := !decide (V.str (headS x) = V.str (headS x))) ?_ (by simp)) (by simp) fun _ H4 e4 => ?_
      · refine et_test (ev_op (ev_ixP (v := .str (headS x)) (by walk_at "ev") (by walk_at "ev") (by decide) hzn (by walk_at "ev") (by rw [ep]; rfl)) (ev_cb (ea_cons (ev_cl (R := sFigure) (fun _ _ _ _ _ h => h) (by walk_at "ev") ⟨x, rfl, rfl⟩) ea_nil) (rc_str (log_small (Nat.lt_of_lt_of_le (figL_lt _) (by decide))))) (rv_ne rfl))
      · exact s_ret (v := .str x) (by walk_at "ev") fun H5 e5 => q x e H5 (((e2.trans e3).trans e4).trans e5)
def spDrop (C : Addr) : Sp := fun vs H Q _ => ∃ (st d : Addr) (S : Tb) (nm : Str), vs = [.ref st, .str nm] ∧ Sto C st d H S ∧ nm ∈ ks S ∧ ∀ H', Exb d H H' → H' d = some (.dK (tD (dl S nm))) → Q .non H'
theorem Store_drop_ok (T : Md K mg base) (hk : 1 ≤ k) : MethOk P w K mg base T.C_Store k "drop" ["self", "name"] (spDrop T.C_Store) := by
  obtain ⟨k, rfl⟩ : ∃ j, k = j + 1 := ⟨k - 1, by omega⟩
  refine T.md_Store_drop.ok (N := ["self", "name"]) sc_Store_drop (by rintro vs H Q E ⟨st, d, S, x, rfl, -⟩; rfl) ?_
  rintro f cdv A outer s H vs Q E hr ⟨st, d, S, nm, rfl, ⟨⟨dx, hs⟩, hd⟩, hm, q⟩
  refine ⟨_, (pss_cons (ps_if (pt_cmp (pc_dnotin (hu_of hr) (pv 1) (pe_fld (pv 0) rfl))) (pss_one ps_never) pss_nil)
    (pss_one (ps_ddel (pe_fld (pv 0) rfl) (pv 1)))), ?_⟩
  have hc := T.cl_Store
  have hn := T.na_Store_pieces
  have hi : (valV (tD S) (.inr nm)).isSome = true := by rw [en_look inr_inj', Option.isSome_map, lk_isSome]; simpa using hm
  refine q_when (b := false) (et_is (et_B (ev_dnotin (k := .inr nm) (by walk_at "ev") (by walk_at "ev") (rd_of hd))) (by rw [hi]; rfl)) (by simp) fun hb H2 e2 => ?_
  refine s_ddel (k := .inr nm) (by walk_at "ev") (by walk_at "ev") (e2 _ _ hd) hi fun H3 e3 => q _ (exb_upd (exb_of (e2.trans e3))) ?_
  rw [upd_same]
  exact congrArg (fun z => some (HO.dK z)) (en_drop inr_inj' S nm)
def spInitS (C emp : Addr) : Sp := fun vs H Q _ => ∃ st dx, vs = [.ref st, .ref emp] ∧ H st = some (.ins C dx []) ∧ ∀ d H', H d = none → Exb st H H' → H' st = some (.ins C dx [("pieces", .ref d)]) → H' d = some (.dK []) → Q .non H'
theorem Store_init_ok (T : Md K mg base) (hk : 1 ≤ k) : MakeOk P w K mg base T.C_Store k "Store" ["self", "rows"] [V.ref T.emp] (spInitS T.C_Store T.emp) := by
  obtain ⟨k, rfl⟩ : ∃ j, k = j + 1 := ⟨k - 1, by omega⟩
  refine T.k_Store.ok (N := ["self", "rows", "name", "piece"]) sc_Store___init__ (by rintro vs H Q E ⟨st, d, rfl, -⟩; rfl) ?_
  rintro f cdv A outer s H vs Q E hr ⟨st, dx, rfl, hs, q⟩
  refine ⟨_, (pss_cons (ps_fld (pv 0) pe_dnewK rfl)
    (pss_one (ps_for PassesOwn.never rfl (pi_tup (pv 1)) (pg_tup (n := 2) rfl (pgs_cons (pg_name (i := 2) sc_Store___init__.nd rfl (Or.inl rfl)) (pgs_cons (pg_name (i := 3) sc_Store___init__.nd rfl (Or.inl rfl)) pgs_nil)))
      (pss_one (ps_dput (hu_of hr) (pe_fld (pv 0) rfl) (pv 2) (pv 3) rfl))))), ?_⟩
  have hc := T.cl_Store
  have hn := T.na_Store_pieces
  refine s_fldN (D := { nx := _, rt := _ }) en_dnew (ev_var rfl) hs hc hn (by decide) fun d H1 hd e1 h1 => ?_
  have ne : d ≠ st := fun z => by rw [z, hs] at hd; cases hd
  refine s_forT (D := { nx := _, rt := _ }) (xs := []) (ev_var rfl) (T.emp_t _) (fun i σ' H' => H' = upd H1 st (.ins T.C_Store dx [("pieces", .ref d)]) ∨ (Ex (upd H1 st (.ins T.C_Store dx [("pieces", .ref d)])) H')) (fun H2 e2 => .inr e2) (fun _ _ H' _ _ => T.emp_t H') (fun i x σ' H' hi => by simp at hi) fun σ' H' h => ?_
  have h : Ex (upd H1 st (.ins T.C_Store dx [("pieces", .ref d)])) H' := h.elim (fun e => e ▸ Ex.refl _) id
  exact q d H' hd ((exb_upd (exb_of e1)).trans (exb_of h)) (h _ _ upd_same) (h _ _ (by rw [upd_ne ne]; exact h1))
end
end Kw


set_option Elab.async false
set_option linter.all false
set_option maxRecDepth 100000
set_option maxHeartbeats 4000000
/-! Cut: check_bounds, sums, told: a text's pieces. -/
namespace Kw
open PySem PySem.Spec PyProof.Rows L2 Evl
local macro_rules
  | `(tactic| walk_at "hp") => `(tactic| first
      | exact prp (by assumption)
      | exact rfl
      | exact upd_same
      | ((with_reducible apply sq_of); first | assumption | exact upd_same)
      | ((with_reducible apply st_of); first | assumption | exact upd_same)
      | ((with_reducible apply rd_of); first | assumption | exact upd_same)
      | ((with_reducible apply ex_l); assumption; walk_at "hp")
      | ((with_reducible apply ex_t); assumption; walk_at "hp")
      | ((with_reducible apply ex_rd); assumption; walk_at "hp")
      | ((with_reducible apply ex_at); assumption; walk_at "hp")
      | ((with_reducible apply Or.inl); walk_at "hp")
      | ((with_reducible apply Or.inr); walk_at "hp")
      | ((with_reducible apply LenD.lst); walk_at "hp")
      | ((with_reducible apply LenD.tup); walk_at "hp")
      | ((with_reducible apply LenD.dic); walk_at "hp")
      | ((with_reducible apply LenD.str); walk_at "hp")
      | ((with_reducible apply mulR); decide)
      | ((with_reducible apply mulL); decide)
      | decide
      | omega)
local macro_rules
  | `(tactic| walk_at "ev") => `(tactic| ((fail_if_success (with_reducible apply ev_bad)); (fail_if_success (with_reducible apply et_bad)); (fail_if_success (with_reducible apply ea_bad)); (fail_if_success (with_reducible apply en_bad)); first
      | ((with_reducible apply ev_var); exact rfl)
      | (with_reducible exact ev_c)
      | (with_reducible exact ea_nil)
      | (with_reducible exact eo_none)
      | ((with_reducible apply eo_some) <;> try walk_at "ev")
      | ((with_reducible apply ea_cons) <;> try walk_at "ev")
      | ((with_reducible apply ev_inTup) <;> try walk_at "ev")
      | ((with_reducible apply ev_niTup) <;> try walk_at "ev")
      | ((with_reducible apply ev_ixP) <;> try walk_at "ev")
      | (with_reducible exact rv_isN)
      | (with_reducible exact rv_notN)
      | ((with_reducible apply ev_op) <;> try walk_at "ev")
      | (with_reducible exact rv_I0)
      | ((with_reducible apply rv_I) <;> try walk_at "hp")
      | ((with_reducible apply rv_eq); exact rfl)
      | ((with_reducible apply rv_ne); exact rfl)
      | ((with_reducible apply rv_addS) <;> try walk_at "hp")
      | ((with_reducible apply rv_ixL); walk_at "hp"; walk_at "hp")
      | ((with_reducible apply rv_ixT); walk_at "hp"; walk_at "hp")
      | ((with_reducible apply ev_cb) <;> try walk_at "ev")
      | ((with_reducible apply rc_len); walk_at "hp")
      | (with_reducible exact rc_ord)
      | ((with_reducible apply rc_str) <;> try walk_at "hp")
      | (with_reducible exact rc_int)
      | (with_reducible exact rc_intB)
      | (with_reducible exact rc_abs)
      | (with_reducible exact rc_max2)
      | (with_reducible exact rc_min2)
      | ((with_reducible apply ev_joinN) <;> try walk_at "ev")
      | ((with_reducible apply ev_m1) <;> try walk_at "ev")
      | ((with_reducible apply rm_strip) <;> try walk_at "hp")
      | (with_reducible exact rm_starts)
      | ((with_reducible apply rm_join) <;> try walk_at "hp")
      | ((with_reducible apply ev_slS) <;> try walk_at "ev")
      | ((with_reducible apply ev_dget) <;> try walk_at "ev")
      | ((with_reducible apply ev_din) <;> try walk_at "ev")
      | ((with_reducible apply ev_dnotin) <;> try walk_at "ev")
      | ((with_reducible apply ev_fld) <;> try walk_at "ev")
      | ((with_reducible apply et_test) <;> try walk_at "ev")
      | ((with_reducible apply et_B) <;> try walk_at "ev")
      | ((with_reducible apply et_and) <;> try walk_at "ev")
      | ((with_reducible apply et_or) <;> try walk_at "ev")
      | ((with_reducible apply et_not) <;> try walk_at "ev")
      | (with_reducible exact en_dnew)
      | (with_reducible exact et_yes)
      | ((with_reducible apply ex_tup) <;> try walk_at "ev")
      | ((with_reducible apply en_slL) <;> try walk_at "ev")
      | ((with_reducible apply en_split) <;> try walk_at "ev")
      | ((with_reducible apply en_part) <;> try walk_at "ev")
      | walk_at "hp"
      | ((with_reducible refine fun hb => ?_); try walk_at "ev")))
local macro_rules
  | `(tactic| walk_at "lcf") => `(tactic| first
      | (intro _ _ _ _ _; exact rfl)
      | (intro _ _ _ _ _; dsimp only [Cx.blk]; done)
      | (intro _ _ _ _ _; dsimp only [Cx.blk]; exact rfl))
def mkS (l : List Nat) : Str := ⟨l.toArray⟩
theorem tl_mkS (l : List Nat) : TL.tl (mkS l) = l := by simp [mkS, TL.tl]
theorem mkS_tl (x : Str) : mkS (TL.tl x) = x := TL.ext_tl (tl_mkS _)
/-- the sum of three signs from i on -/
def win (cs : List Nat) (i : Nat) : Int := ordsum ((cs.drop i).take 3)
def cutAt (cs : List Nat) (s p : Nat) : Bool := decide (p - s = 12) || (decide (4 ≤ p - s) && decide (win cs (p - 3) % 5 = 0))
def stp (cs : List Nat) (a : List (List Nat) × Nat) (p : Nat) : List (List Nat) × Nat := if cutAt cs a.2 p then (a.1 ++ [(cs.take p).drop a.2], p) else a
/-- behind the first n signs -/
def cutN (cs : List Nat) : Nat → List (List Nat) × Nat
  | 0 => ([], 0)
  | n + 1 => stp cs (cutN cs n) (n + 1)
def cuts (cs : List Nat) : List (List Nat) := (cutN cs cs.length).1 ++ if (cutN cs cs.length).2 < cs.length then [cs.drop (cutN cs cs.length).2] else []
def cutsS (x : Str) : List Str := (cuts (TL.tl x)).map mkS
theorem cutN_le (cs : List Nat) : ∀ n, (cutN cs n).2 ≤ n ∧ (cutN cs n).1.length ≤ n
  | 0 => ⟨Nat.le_refl _, Nat.le_refl _⟩
  | n + 1 => by
    have ih := cutN_le cs n
    show (stp cs (cutN cs n) (n + 1)).2 ≤ n + 1 ∧ _
    unfold stp
    rw [show cutN cs (n + 1) = stp cs (cutN cs n) (n + 1) from rfl]
    unfold stp
    split
    · exact ⟨Nat.le_refl _, by rw [List.length_append]; simp; omega⟩
    · exact ⟨by omega, by omega⟩
theorem win_step (cs : List Nat) (i : Nat) {a b : Nat} (h1 : cs[i]? = some a) (h2 : cs[i + 3]? = some b) : win cs (i + 1) = win cs i + (b - a) := by
  unfold win ordsum
  obtain ⟨g1, rfl⟩ := List.getElem?_eq_some_iff.mp h1
  obtain ⟨g2, rfl⟩ := List.getElem?_eq_some_iff.mp h2
  rw [List.drop_eq_getElem_cons (l := cs) (i := i) g1, List.drop_eq_getElem_cons (l := cs) (i := i + 1) (by omega), List.drop_eq_getElem_cons (l := cs) (i := i + 1 + 1) (by omega), List.drop_eq_getElem_cons (l := cs) (i := i + 1 + 1 + 1) (by omega)]
  have e3 : cs[i + 3]'g2 = cs[i + 1 + 1 + 1]'(by omega) := rfl
  rw [e3]
  simp only [List.take, List.map_cons, List.map_nil, List.sum_cons, List.sum_nil]
  omega
section
variable {σ : L2.St} {H : Hp} {te : TE} {D : Ends} {tz : TS}
theorem q_dropN {o : HO} (h : EvN te σ H o) (k : ∀ p H1, H p = none → Ex H H1 → H1 p = some o → tz D σ H1) : tSeq (tDrop te) tz D σ H := h H (Ex.refl H) _ k
end
section
variable {P : Program} {w : World} {K : PySem.W.Frag} {mg : Str → Option Value} {base : Heap} {k : Nat}
def sBounds : List V → Hp → HO → Prop := fun vs _ o => vs = [.int 4, .int 12, .int 3] ∧ o = .tup [.int 4, .int 12, .int 3]
theorem mono_bounds : Mono sBounds := fun _ _ _ _ _ h => h
theorem check_bounds_ok (T : Md K mg base) (hk : 1 ≤ k) : CallOk P w K mg base k "check_bounds" ["least", "most", "window"] (spN sBounds) := by
  obtain ⟨k, rfl⟩ : ∃ j, k = j + 1 := ⟨k - 1, by omega⟩
  refine T.d_check_bounds.ok (N := ["least", "most", "window"]) sc_check_bounds (by rintro vs H Q E ⟨o, ⟨rfl, -⟩, -⟩; rfl) ?_
  rintro f cdv A outer s H vs Q E hr ⟨o, ⟨rfl, rfl⟩, q⟩
  refine ⟨_, (pss_cons (ps_if (pt_not (pt_chain3 op_lt op_le op_le pe_int (pv 2) (pv 0) (pv 1))) (pss_one ps_never) pss_nil)
    (pss_one (ps_ret (pe_tup (pa_cons (pv 0) (pa_cons (pv 1) (pa_cons (pv 2) pa_nil))))))), ?_⟩
  refine q_when (b := false) (et_not (a := true) ?_) (by simp) fun _ H1 e1 => ?_
  · exact et_is (et_test (ev_chain3 ev_c (by walk_at "ev") rv_I0 (by walk_at "ev") rv_I0 (by walk_at "ev") rv_I0)) (by decide)
  · exact s_retN (en_tup (by walk_at "ev") (by simp)) fun p H2 hp e2 h2 => q p H2 (fresh_back e1 hp) (e1.trans e2) h2
def sSums : List V → Hp → HO → Prop := fun vs _ o => ∃ x : Str, vs = [.str x, .int 3] ∧ x.length ≤ 1000 ∧ o = .tup ((List.range (x.length - 2)).map fun i => V.int (win (TL.tl x) i))
theorem mono_sums : Mono sSums := fun _ _ _ _ _ h => h
theorem sums_ok (T : Md K mg base) (hk : 1 ≤ k) : CallOk P w K mg base k "sums" ["text", "window"] (spN sSums) := by
  obtain ⟨k, rfl⟩ : ∃ j, k = j + 1 := ⟨k - 1, by omega⟩
  refine T.d_sums.ok (N := ["text", "window", "found", "here", "place"]) sc_sums (by rintro vs H Q E ⟨o, ⟨x, rfl, -⟩, -⟩; rfl) ?_
  rintro f cdv A outer s H vs Q E hr ⟨o, ⟨x, rfl, hx, rfl⟩, q⟩
  refine ⟨_, (pss_cons (ps_if (pt_cmpR op_lt (pv 1) pe_int (nomark _)) (pss_one ps_never) pss_nil)
    (pss_cons (ps_par (i := 2) (j := 3) rfl sc_sums.nd rfl rfl (by decide) rfl rfl (pa_cons (pe_lst pa_nil) (pa_cons (b_summapord T.b (pe_slice sl_str (pv 0) po_none (po_some (pv 1)))) pa_nil)) (by rfl))
    (Evl.pss_cut (ps_if (pt_cmpR op_ge (b_len T.b (pa_cons (pv 0) pa_nil)) (pv 1) (nomark _)) (pss_one (ps_expr (pe_bm PySem.F.plainAttrs_list PySem.F.slot_list_append PySem.F.type_list_append mt_append (pv 2) (pa_cons (pv 3) pa_nil)))) pss_nil)
    (pss_cons (ps_for PassesOwn.never rfl (pi_range2 rfl T.b.range (pa_cons (pv 1) (pa_cons (b_len T.b (pa_cons (pv 0) pa_nil)) pa_nil))) (pg_name (i := 4) sc_sums.nd rfl (Or.inl rfl))
      (pss_cons (ps_aug (i := 3) sc_sums.nd rfl (Or.inl rfl) (pe_op op_sub (b_ord T.b (pa_cons (pe_ix ix_str (pv 0) (pv 4) (fun _ _ => rfl)) pa_nil)) (b_ord T.b (pa_cons (pe_ix ix_str (pv 0) (pe_op op_sub (pv 4) (pv 1)) (fun _ _ => rfl)) pa_nil))) ip_add)
      (pss_one (ps_expr (pe_bm PySem.F.plainAttrs_list PySem.F.slot_list_append PySem.F.type_list_append mt_append (pv 2) (pa_cons (pv 3) pa_nil))))))
    (pss_one (ps_ret (b_tupleL T.b (pa_cons (pv 2) pa_nil)))))))), ?_⟩
  have hz : x.length ≤ sizeLine := sz_of (by omega)
  have hlen := len_tl' x
  refine q_when (b := false) (et_is (by walk_at "ev") (by decide)) (by simp) fun _ H1 e1 => ?_
  refine q_parN en_lst0 (z := .int (win (TL.tl x) 0)) (ev_is (ev_summapord (by walk_at "ev")) ?_) fun F H2 hF e2 h2 => ?_
  · rw [show (3 : Int) = ((3 : Nat) : Int) from rfl, cutS_to x 3]; rfl
  have hF0 : H F = none := fresh_back e1 hF
  refine q_cut (M := fun σ' H' => Ex H H' ∧ H' F = some (.lst ((List.range (min 1 (x.length - 2))).map fun i => V.int (win (TL.tl x) i))) ∧ ∃ u, σ' = [some (.str x), some (.int 3), some (.ref F), some (.int (win (TL.tl x) 0)), u]) ?_ ?_
  · refine s_when (b := decide ((3 : Int) ≤ (x.length : Int))) (et_is (by walk_at "ev") rfl) (fun hb H3 e3 => ?_) fun hb H3 e3 => ?_
    · rw [decide_eq_true_eq] at hb
      refine s_app (e3 _ _ h2) (by walk_at "ev") (by walk_at "ev") (by decide) fun H4 e4 => ⟨Ex.mut (((e1.trans e2).trans e3).trans e4) hF0, ?_, _, rfl⟩
      rw [upd_same, Nat.min_eq_left (by omega)]
      rfl
    · rw [decide_eq_false_iff_not] at hb
      refine ⟨(e1.trans e2).trans e3, ?_, _, rfl⟩
      rw [e3 _ _ h2, Nat.min_eq_right (by omega), show x.length - 2 = 0 by omega]
      rfl
  rintro σ' H' ⟨e, hF', u, rfl⟩
  refine q_forR2 (lo := 3) (n := (x.length : Int)) (by walk_at "ev") ⟨by omega, by omega, by omega, by omega⟩ (fun i σ' H' => Ex H H' ∧ H' F = some (.lst ((List.range (min (i + 1) (x.length - 2))).map fun i => V.int (win (TL.tl x) i))) ∧ ∃ u, σ' = [some (.str x), some (.int 3), some (.ref F), some (.int (win (TL.tl x) i)), u]) ?_ ?_ ?_
  · intro H3 e3
    exact ⟨e.trans e3, e3 _ _ hF', _, rfl⟩
  · rintro i σ' H' hi ⟨e, hF', u, rfl⟩
    have hi' : i + 3 < (TL.tl x).length := by omega
    have g1 : (TL.tl x)[i]? = some (TL.tl x)[i] := List.getElem?_eq_getElem (by omega)
    have g2 : (TL.tl x)[i + 3]? = some (TL.tl x)[i + 3] := List.getElem?_eq_getElem hi'
    have e0 : V.int (3 + (i : Int)) = V.int ((i + 3 : Nat) : Int) := by congr 1; omega
    have e00 : V.int (3 + (i : Int) - 3) = V.int ((i : Nat) : Int) := by congr 1; omega
    refine q_augV (x := .int (win (TL.tl x) i)) rfl (ev_op (ev_cb (ea_cons (ev_op (ev_var rfl) (ev_is (ev_var rfl) e0) (rv_ixS' (by omega) g2)) ea_nil) rc_ord) (ev_cb (ea_cons (ev_op (ev_var rfl) (ev_is (ev_op (ev_var rfl) (ev_var rfl) rv_I0) e00) (rv_ixS' (by omega) g1)) ea_nil) rc_ord) rv_I0) rv_I0 fun H3 e3 => ?_
    refine s_app (e3 _ _ hF') (by walk_at "ev") (by walk_at "ev") (by simp; omega) fun H4 e4 => ⟨Ex.mut ((e.trans e3).trans e4) hF0, ?_, _, by rw [win_step _ _ g1 g2]; rfl⟩
    rw [upd_same, Nat.min_eq_left (by omega), Nat.min_eq_left (by omega), List.range_succ (n := i + 1), List.map_append]
    show some (HO.lst (_ ++ [V.int (win (TL.tl x) i + (((TL.tl x)[i + 3] : Int) - ((TL.tl x)[i] : Int)))])) = some (HO.lst (_ ++ [V.int (win (TL.tl x) (i + 1))]))
    rw [win_step _ _ g1 g2]
  · rintro σ' H' ⟨e, hF', u, rfl⟩
    refine s_retN (en_tupL (by walk_at "ev") (sq_of hF')) fun p H3 hp e3 h3 => q p H3 (fresh_back e hp) (e.trans e3) ?_
    rw [h3]
    congr 4
    omega
def sTold : List V → Hp → HO → Prop := fun vs _ o => ∃ x : Str, vs = [.str x, .int 4, .int 12, .int 3, .int 5] ∧ x.length ≤ 1000 ∧ o = .tup ((cutsS x).map V.str)
theorem mono_told : Mono sTold := fun _ _ _ _ _ h => h
theorem told_ok (T : Md K mg base) (hk : 2 ≤ k) : CallOk P w K mg base k "told" ["text", "least", "most", "window", "by"] (spN sTold) := by
  obtain ⟨k, rfl⟩ : ∃ j, k = j + 1 := ⟨k - 1, by omega⟩
  refine T.d_told.ok (N := ["text", "least", "most", "window", "by", "marks", "found", "start", "place", "size"]) sc_told (by rintro vs H Q E ⟨o, ⟨x, rfl, -⟩, -⟩; rfl) ?_
  rintro f cdv A outer s H vs Q E hr ⟨o, ⟨x, rfl, hx, rfl⟩, q⟩
  refine ⟨_, (pss_cons (ps_expr (pe_c (check_bounds_ok T (by omega)) hr (by rfl) (pa_cons (pv 1) (pa_cons (pv 2) (pa_cons (pv 3) pa_nil)))))
    (pss_cons (ps_if (pt_cmpR op_lt (pv 4) pe_int (nomark _)) (pss_one ps_never) pss_nil)
    (pss_cons (ps_par3 (i := 5) (j := 6) (l := 7) rfl sc_told.nd rfl rfl rfl (by decide) (by decide) (by decide) rfl rfl rfl (pa_cons (pe_c (sums_ok T (by omega)) hr (by rfl) (pa_cons (pv 0) (pa_cons (pv 3) pa_nil))) (pa_cons (pe_lst pa_nil) (pa_cons pe_int pa_nil))) (by rfl))
    (pss_cons (ps_for PassesOwn.never rfl (pi_range2 rfl T.b.range (pa_cons pe_int (pa_cons (pe_op op_add (b_len T.b (pa_cons (pv 0) pa_nil)) pe_int) pa_nil))) (pg_name (i := 8) sc_told.nd rfl (Or.inl rfl))
      (pss_cons (ps_set (i := 9) sc_told.nd rfl (Or.inl rfl) (pe_op op_sub (pv 8) (pv 7)))
      (pss_one (ps_if (PW.pt (pw_or (pt_cmpR op_eq (pv 9) (pv 2) (nomark _)) (pw_or1 (PW.pt (pw_and (pt_cmpR op_ge (pv 9) (pv 1) (nomark _)) (pw_and1 (pt_cmpR op_eq (pe_op op_mod (pe_ix ix_tup (pv 5) (pe_op op_sub (pv 8) (pv 3)) (fun _ _ => rfl)) (pv 4)) pe_int (nomark _)))))))) (pss_cons (ps_expr (pe_bm PySem.F.plainAttrs_list PySem.F.slot_list_append PySem.F.type_list_append mt_append (pv 6) (pa_cons (pe_slice sl_str (pv 0) (po_some (pv 7)) (po_some (pv 8))) pa_nil)))
        (pss_one (ps_set (i := 7) sc_told.nd rfl (Or.inl rfl) (pv 8)))) pss_nil))))
    (pss_cons (ps_if (pt_cmpR op_lt (pv 7) (b_len T.b (pa_cons (pv 0) pa_nil)) (nomark _)) (pss_one (ps_expr (pe_bm PySem.F.plainAttrs_list PySem.F.slot_list_append PySem.F.type_list_append mt_append (pv 6) (pa_cons (pe_slice sl_str (pv 0) (po_some (pv 7)) po_none) pa_nil)))) pss_nil)
    (pss_one (ps_ret (b_tupleL T.b (pa_cons (pv 6) pa_nil))))))))), ?_⟩
  have hz : x.length ≤ sizeLine := sz_of (by omega)
  have hlen := len_tl' x
  refine q_dropN (en_cl mono_bounds (by walk_at "ev") ⟨rfl, rfl⟩) fun b H1 _ e1 _ => ?_
  refine q_when (b := false) (et_is (by walk_at "ev") (by decide)) (by simp) fun _ H2 e2 => ?_
  refine q_par3 (en_cl mono_sums (by walk_at "ev") ⟨x, rfl, hx, rfl⟩) en_lst0 ev_c fun M F H3 hM hF hne e3 h3 h4 => ?_
  have hF0 : H F = none := fresh_back (e1.trans e2) hF
  have hM0 : H M = none := fresh_back (e1.trans e2) hM
  refine q_forR2 (lo := 1) (n := (x.length : Int) + 1) (by walk_at "ev") ⟨by omega, by omega, by omega, by omega⟩ (fun i σ' H' => Ex H H' ∧ H' M = some (.tup ((List.range (x.length - 2)).map fun i => V.int (win (TL.tl x) i))) ∧ H' F = some (.lst ((cutN (TL.tl x) i).1.map fun l => V.str (mkS l))) ∧
    ∃ u v, σ' = [some (.str x), some (.int 4), some (.int 12), some (.int 3), some (.int 5), some (.ref M), some (.ref F), some (.int ((cutN (TL.tl x) i).2 : Nat)), u, v]) ?_ ?_ ?_
  · intro H4 e4
    exact ⟨((e1.trans e2).trans e3).trans e4, e4 _ _ h3, e4 _ _ h4, _, _, rfl⟩
  · rintro i σ' H' hi ⟨e, hM', hF', u, v, rfl⟩
    have hc1 := (cutN_le (TL.tl x) i).1
    have hc2 := (cutN_le (TL.tl x) i).2
    have es : V.int (1 + (i : Int) - ((cutN (TL.tl x) i).2 : Nat)) = V.int ((i + 1 - (cutN (TL.tl x) i).2 : Nat) : Int) := by congr 1; omega
    refine q_asg (ev_is (ev_op (ev_var rfl) (ev_var rfl) rv_I0) es) fun H4 e4 => ?_
    have step : (cutN (TL.tl x) (i + 1)) = stp (TL.tl x) (cutN (TL.tl x) i) (i + 1) := rfl
    refine s_when (b := cutAt (TL.tl x) (cutN (TL.tl x) i).2 (i + 1)) (et_is (et_or (b := decide (4 ≤ i + 1 - (cutN (TL.tl x) i).2) && decide (win (TL.tl x) (i + 1 - 3) % 5 = 0)) (a := decide (i + 1 - (cutN (TL.tl x) i).2 = 12)) (et_is (by walk_at "ev") ?_) fun _ => et_and (et_is (by walk_at "ev") ?_) fun hb => ?_) rfl) (fun hb H5 e5 => ?_) fun hb H5 e5 => ?_
    · by_cases z : i + 1 - (cutN (TL.tl x) i).2 = 12
      · rw [z]; rfl
      · rw [decide_eq_false z]
        exact decide_eq_false fun y => z (by have y' := V.int.inj y; omega)
    · by_cases z : 4 ≤ i + 1 - (cutN (TL.tl x) i).2
      · rw [decide_eq_true z]; exact decide_eq_true (by omega)
      · rw [decide_eq_false z]; exact decide_eq_false (by omega)
    · rw [decide_eq_true_eq] at hb
      have e30 : V.int (1 + (i : Int) - 3) = V.int ((i + 1 - 3 : Nat) : Int) := by congr 1; omega
      refine et_is (b := decide (V.int (win (TL.tl x) (i + 1 - 3) % 5) = V.int 0)) (et_test (ev_op (ev_op (ev_op (ev_var rfl) (ev_is (ev_op (ev_var rfl) (ev_var rfl) rv_I0) e30) (rv_ixT (st_of (e4 _ _ hM')) (atI_nat (j := i + 1 - 3) ?_))) (ev_var rfl) (rv_I (by decide))) ev_c (rv_eq rfl))) ?_
      · rw [List.getElem?_map, List.getElem?_range (by omega)]; rfl
      · by_cases z : win (TL.tl x) (i + 1 - 3) % 5 = 0
        · rw [z]; rfl
        · rw [decide_eq_false z]; exact decide_eq_false fun y => z (by have y' := V.int.inj y; omega)
    · have e10 : V.int (1 + (i : Int)) = V.int ((i + 1 : Nat) : Int) := by congr 1; omega
      have e11 : V.str (cutS x (some ((cutN (TL.tl x) i).2 : Nat)) (some ((i + 1 : Nat) : Int))) = V.str (mkS (((TL.tl x).take (i + 1)).drop (cutN (TL.tl x) i).2)) := by
        congr 1
        refine TL.ext_tl ?_
        rw [cutS_mid _ _ _ (by omega), tl_mkS]
      refine q_app (e5 _ _ (e4 _ _ hF')) (by walk_at "ev") (ev_is (ev_slS (ev_var rfl) (eo_some (ev_var rfl)) (eo_some (ev_is (ev_var rfl) e10)) hz) e11) (by rw [List.length_map]; omega) fun H6 e6 => ?_
      refine s_asg (ev_is (ev_var rfl) e10) fun H7 e7 => ⟨(Ex.mut (((e.trans e4).trans e5).trans e6) hF0).trans e7, ?_, ?_, some (.int (1 + (i : Int))), some (.int ((i + 1 - (cutN (TL.tl x) i).2 : Nat) : Int)), ?_⟩
      · refine e7 _ _ ?_
        rw [upd_ne hne]
        exact e6 _ _ (e5 _ _ (e4 _ _ hM'))
      · rw [e7 _ _ upd_same, step]
        unfold stp
        rw [if_pos hb, List.map_append]
        rfl
      · rw [step]
        unfold stp
        rw [if_pos hb]
        rfl
    · refine ⟨(e.trans e4).trans e5, e5 _ _ (e4 _ _ hM'), ?_, some (.int (1 + (i : Int))), some (.int ((i + 1 - (cutN (TL.tl x) i).2 : Nat) : Int)), ?_⟩
      · rw [e5 _ _ (e4 _ _ hF'), step]
        unfold stp
        rw [if_neg (by rw [hb]; decide)]
      · rw [step]
        unfold stp
        rw [if_neg (by rw [hb]; decide)]
        rfl
  · rintro σ' H' ⟨e, hM', hF', u, v, rfl⟩
    have en0 : ((x.length : Int) + 1 - 1).toNat = (TL.tl x).length := by omega
    rw [en0] at hF' ⊢
    have hc2 := (cutN_le (TL.tl x) (TL.tl x).length).2
    refine q_when (b := decide ((cutN (TL.tl x) (TL.tl x).length).2 < (TL.tl x).length)) (et_is (by walk_at "ev") ?_) (fun hb H4 e4 => ?_) fun hb H4 e4 => ?_
    · rw [hlen]
      by_cases z : (cutN (TL.tl x) (TL.tl x).length).2 < (TL.tl x).length
      · rw [decide_eq_true z]; exact decide_eq_true (by omega)
      · rw [decide_eq_false z]; exact decide_eq_false (by omega)
    · rw [decide_eq_true_eq] at hb
      have e11 : V.str (cutS x (some ((cutN (TL.tl x) (TL.tl x).length).2 : Nat)) none) = V.str (mkS ((TL.tl x).drop (cutN (TL.tl x) (TL.tl x).length).2)) := by
        congr 1
        refine TL.ext_tl ?_
        rw [cutS_from, tl_mkS]
      refine s_app (e4 _ _ hF') (by walk_at "ev") (ev_is (ev_slS (ev_var rfl) (eo_some (ev_var rfl)) eo_none hz) e11) (by rw [List.length_map]; omega) fun H6 e6 => ?_
      dsimp only
      refine s_retN (en_tupL (by walk_at "ev") (sq_of upd_same)) fun p H7 hp e7 h7 => q p H7 (fresh_back (Ex.mut ((e.trans e4).trans e6) hF0) hp) ((Ex.mut ((e.trans e4).trans e6) hF0).trans e7) ?_
      rw [h7]
      unfold cutsS cuts
      rw [if_pos hb, List.map_map, List.map_append]
      rfl
    · rw [decide_eq_false_iff_not] at hb
      refine s_retN (en_tupL (by walk_at "ev") (sq_of (e4 _ _ hF'))) fun p H7 hp e7 h7 => q p H7 (fresh_back (e.trans e4) hp) ((e.trans e4).trans e7) ?_
      rw [h7]
      unfold cutsS cuts
      rw [if_neg hb, List.map_map, List.append_nil]
      rfl
end
end Kw


set_option Elab.async false
set_option linter.all false
set_option maxRecDepth 100000
set_option maxHeartbeats 4000000
/-! Tre: pieces of texts: body, words_of, rows_of, put_text, get_text. -/
namespace Kw
open PySem PySem.Spec PyProof.Rows L2 Evl
local macro_rules
  | `(tactic| walk_at "hp") => `(tactic| first
      | exact prp (by assumption)
      | exact rfl
      | exact upd_same
      | ((with_reducible apply sq_of); first | assumption | exact upd_same)
      | ((with_reducible apply st_of); first | assumption | exact upd_same)
      | ((with_reducible apply rd_of); first | assumption | exact upd_same)
      | ((with_reducible apply ex_l); assumption; walk_at "hp")
      | ((with_reducible apply ex_t); assumption; walk_at "hp")
      | ((with_reducible apply ex_rd); assumption; walk_at "hp")
      | ((with_reducible apply ex_at); assumption; walk_at "hp")
      | ((with_reducible apply Or.inl); walk_at "hp")
      | ((with_reducible apply Or.inr); walk_at "hp")
      | ((with_reducible apply LenD.lst); walk_at "hp")
      | ((with_reducible apply LenD.tup); walk_at "hp")
      | ((with_reducible apply LenD.dic); walk_at "hp")
      | ((with_reducible apply LenD.str); walk_at "hp")
      | ((with_reducible apply mulR); decide)
      | ((with_reducible apply mulL); decide)
      | decide
      | omega)
local macro_rules
  | `(tactic| walk_at "ev") => `(tactic| ((fail_if_success (with_reducible apply ev_bad)); (fail_if_success (with_reducible apply et_bad)); (fail_if_success (with_reducible apply ea_bad)); (fail_if_success (with_reducible apply en_bad)); first
      | ((with_reducible apply ev_var); exact rfl)
      | (with_reducible exact ev_c)
      | (with_reducible exact ea_nil)
      | (with_reducible exact eo_none)
      | ((with_reducible apply eo_some) <;> try walk_at "ev")
      | ((with_reducible apply ea_cons) <;> try walk_at "ev")
      | ((with_reducible apply ev_inTup) <;> try walk_at "ev")
      | ((with_reducible apply ev_niTup) <;> try walk_at "ev")
      | ((with_reducible apply ev_ixP) <;> try walk_at "ev")
      | (with_reducible exact rv_isN)
      | (with_reducible exact rv_notN)
      | ((with_reducible apply ev_op) <;> try walk_at "ev")
      | (with_reducible exact rv_I0)
      | ((with_reducible apply rv_I) <;> try walk_at "hp")
      | ((with_reducible apply rv_eq); exact rfl)
      | ((with_reducible apply rv_ne); exact rfl)
      | ((with_reducible apply rv_addS) <;> try walk_at "hp")
      | ((with_reducible apply rv_ixL); walk_at "hp"; walk_at "hp")
      | ((with_reducible apply rv_ixT); walk_at "hp"; walk_at "hp")
      | ((with_reducible apply ev_cb) <;> try walk_at "ev")
      | ((with_reducible apply rc_len); walk_at "hp")
      | (with_reducible exact rc_ord)
      | ((with_reducible apply rc_str) <;> try walk_at "hp")
      | (with_reducible exact rc_int)
      | (with_reducible exact rc_intB)
      | (with_reducible exact rc_abs)
      | (with_reducible exact rc_max2)
      | (with_reducible exact rc_min2)
      | ((with_reducible apply ev_joinN) <;> try walk_at "ev")
      | ((with_reducible apply ev_m1) <;> try walk_at "ev")
      | ((with_reducible apply rm_strip) <;> try walk_at "hp")
      | (with_reducible exact rm_starts)
      | ((with_reducible apply rm_join) <;> try walk_at "hp")
      | ((with_reducible apply ev_slS) <;> try walk_at "ev")
      | ((with_reducible apply ev_dget) <;> try walk_at "ev")
      | ((with_reducible apply ev_din) <;> try walk_at "ev")
      | ((with_reducible apply ev_dnotin) <;> try walk_at "ev")
      | ((with_reducible apply ev_fld) <;> try walk_at "ev")
      | ((with_reducible apply et_test) <;> try walk_at "ev")
      | ((with_reducible apply et_B) <;> try walk_at "ev")
      | ((with_reducible apply et_and) <;> try walk_at "ev")
      | ((with_reducible apply et_or) <;> try walk_at "ev")
      | ((with_reducible apply et_not) <;> try walk_at "ev")
      | (with_reducible exact en_dnew)
      | (with_reducible exact et_yes)
      | ((with_reducible apply ex_tup) <;> try walk_at "ev")
      | ((with_reducible apply en_slL) <;> try walk_at "ev")
      | ((with_reducible apply en_split) <;> try walk_at "ev")
      | ((with_reducible apply en_part) <;> try walk_at "ev")
      | walk_at "hp"
      | ((with_reducible refine fun hb => ?_); try walk_at "ev")))
local macro_rules
  | `(tactic| walk_at "lcf") => `(tactic| first
      | (intro _ _ _ _ _; exact rfl)
      | (intro _ _ _ _ _; dsimp only [Cx.blk]; done)
      | (intro _ _ _ _ _; dsimp only [Cx.blk]; exact rfl))
/-- all rows of S are rows of S' -/
def Grow (S S' : Tb) : Prop := ∀ n x, lk S n = some x → lk S' n = some x
theorem Grow.refl (S : Tb) : Grow S S := fun _ _ h => h
theorem Grow.trans {S S1 S2 : Tb} (a : Grow S S1) (b : Grow S1 S2) : Grow S S2 := fun n x h => b n x (a n x h)
theorem put_law {S S' : Tb} {x nm : Str} (wf : WF S) (hx : x.length ≤ 5000) (hl : S.length < 90000) (p : Put S x S' nm) : WF S' ∧ lk S' nm = some x ∧ Grow S S' ∧ S'.length ≤ S.length + 1 ∧ (nmOf S x ≠ none → S' = S) := by
  rcases p with ⟨h, rfl⟩ | ⟨h, n, hn, rfl, hk, rfl⟩
  · exact ⟨wf, lk_of wf.nd (nmOf_mem h), Grow.refl _, by omega, fun _ => rfl⟩
  · refine ⟨⟨?_, ?_, ?_, ?_, ?_⟩, ?_, ?_, ?_, fun z => absurd h z⟩
    · rw [← pu_new hk]; exact nd_pu wf.nd
    · rw [List.map_append, List.nodup_append]
      refine ⟨wf.pd, by simp, fun a ha b hb => ?_⟩
      rw [List.mem_singleton.mp hb]
      exact fun e => nmOf_none h (by rw [show a = x from e] at ha; exact ha)
    · intro r hr
      rcases List.mem_append.mp hr with hr | hr
      · exact wf.nm r hr
      · rw [List.mem_singleton.mp hr]
        exact ⟨n, rfl, by omega⟩
    · intro r hr
      rcases List.mem_append.mp hr with hr | hr
      · exact wf.sz r hr
      · rw [List.mem_singleton.mp hr]; exact hx
    · rw [List.length_append]; simp; omega
    · rw [← pu_new hk, lk_pu]; simp
    · intro m y hy
      rw [← pu_new hk, lk_pu]
      by_cases z : m = nameOf x n
      · subst z
        rw [lk_none.mpr hk] at hy
        cases hy
      · rw [if_neg z]; exact hy
    · rw [List.length_append]; simp
/-- the text t stands in S under nm -/
def TxtAt (S : Tb) (t nm : Str) : Prop := ∃ names : List Str, Paired (fun n c => lk S n = some (("p" : Str) ++ c)) names (cutsS t) ∧ lk S nm = some (("l" : Str) ++ Txt.join " " names)
theorem TxtAt.grow {S S' : Tb} {t nm : Str} (g : Grow S S') (h : TxtAt S t nm) : TxtAt S' t nm := let ⟨ns, a, b⟩ := h; ⟨ns, gv_pair (fun _ _ h => g _ _ h) a, g _ _ b⟩
theorem wf_name {S : Tb} (wf : WF S) {nm x : Str} (h : lk S nm = some x) : nm.length ≤ 20 := by
  obtain ⟨n, h1, h2⟩ := wf.nm _ (lk_mem h)
  rw [show nm = nameOf x n from h1]
  exact nameOf_len h2
theorem cuts_len (cs : List Nat) : (cuts cs).length ≤ cs.length + 1 := by
  unfold cuts
  have h := (cutN_le cs cs.length).2
  rw [List.length_append]
  split <;> simp <;> omega
theorem cutN_sz (cs : List Nat) : ∀ n, n ≤ cs.length → ∀ l ∈ (cutN cs n).1, l.length ≤ 200 ∨ l.length ≤ cs.length
  | 0, _, l, h => by cases h
  | n + 1, hn, l, h => by
    rw [show cutN cs (n + 1) = stp cs (cutN cs n) (n + 1) from rfl] at h
    unfold stp at h
    split at h
    · rcases List.mem_append.mp h with h | h
      · exact cutN_sz cs n (by omega) l h
      · rw [List.mem_singleton.mp h]
        right
        rw [List.length_drop, List.length_take]
        omega
    · exact cutN_sz cs n (by omega) l h
theorem cuts_sz {x c : Str} (hx : x.length ≤ 200) (h : c ∈ cutsS x) : c.length ≤ 200 := by
  obtain ⟨l, hl, rfl⟩ := List.mem_map.mp h
  have hlen := len_tl' x
  rw [len_tl', tl_mkS]
  unfold cuts at hl
  rcases List.mem_append.mp hl with hl | hl
  · have z := cutN_sz _ _ (Nat.le_refl _) l hl
    omega
  · split at hl
    · rw [List.mem_singleton.mp hl, List.length_drop]; omega
    · cases hl
theorem paired_len_le {S : Tb} (wf : WF S) {names cs : List Str} (h : Paired (fun n c => lk S n = some (("p" : Str) ++ c)) names cs) : ∀ n ∈ names, n.length ≤ 20 := by
  induction h with
  | nil => intro n hn; cases hn
  | cons h1 _ ih =>
    intro n hn
    rcases List.mem_cons.mp hn with rfl | hn
    · exact wf_name wf h1
    · exact ih n hn
theorem join_len (a : Str) : ∀ ys : List Str, (Txt.join a ys).length ≤ (ys.map (·.length)).sum + ys.length * a.length := fun ys => by
  rw [len_tl', TL.join_eq, TL.tl_join]
  have go : ∀ ps : List Str, (TL.joinL (TL.tl a) (ps.map TL.tl)).length ≤ (ps.map (·.length)).sum + ps.length * a.length := fun ps => by
    induction ps with
    | nil => exact Nat.zero_le _
    | cons p r ih =>
      cases r with
      | nil => show (TL.tl p).length ≤ _; rw [← len_tl']; simp only [List.map_cons, List.map_nil, List.sum_cons, List.sum_nil, List.length_cons, List.length_nil]; omega
      | cons p2 r2 =>
        show (TL.tl p ++ (TL.tl a ++ TL.joinL (TL.tl a) ((p2 :: r2).map TL.tl))).length ≤ _
        rw [List.length_append, List.length_append, ← len_tl', ← len_tl']
        simp only [List.map_cons, List.sum_cons, List.length_cons, Nat.succ_mul] at ih ⊢
        omega
  exact go ys
section
variable {P : Program} {w : World} {K : PySem.W.Frag} {mg : Str → Option Value} {base : Heap} {k : Nat}
def wordsL (x : Str) : List Str := if x = "" then [] else Txt.split x " "
def sWords : List V → Hp → HO → Prop := fun vs _ o => ∃ x : Str, vs = [.str x] ∧ x.length ≤ 6000 ∧ o = .lst ((wordsL x).map V.str)
theorem mono_words : Mono sWords := fun _ _ _ _ _ h => h
theorem words_of_ok (T : Md K mg base) (hk : 1 ≤ k) : CallOk P w K mg base k "words_of" ["text"] (spN sWords) := by
  obtain ⟨k, rfl⟩ : ∃ j, k = j + 1 := ⟨k - 1, by omega⟩
  refine T.d_words_of.ok (N := ["text"]) sc_words_of (by rintro vs H Q E ⟨o, ⟨x, rfl, -⟩, -⟩; rfl) ?_
  rintro f cdv A outer s H vs Q E hr ⟨o, ⟨x, rfl, hx, rfl⟩, q⟩
  refine ⟨_, (pss_one (ps_ret (pe_ifExp (pt_cmpR op_ne (pv 0) pe_str (nomark _)) (s_split (pv 0) pe_str) (pe_lst pa_nil)))), ?_⟩
  have hz : x.length + 2 ≤ sizeLine := sz_of (by omega)
  refine s_retN (en_if (b := !decide (V.str x = V.str "")) (by walk_at "ev") (fun hb => en_is (by walk_at "ev") ?_) (fun hb => en_is en_lst0 ?_)) fun p H1 hp e1 h1 => q p H1 hp e1 h1
  · unfold wordsL
    rw [if_neg (fun z => by rw [z] at hb; simp at hb)]
  · unfold wordsL
    rw [if_pos (by simpa using hb)]
    rfl
def spBody (C N : Addr) : Sp := fun vs H Q E => ∃ (st d : Addr) (S : Tb) (nm kd : Str), vs = [.ref st, .str nm, .str kd] ∧ Sto C st d H S ∧ WF S ∧
  (∀ x, lk S nm = some x → TL.tl kd = (TL.tl x).take 1 ∧ ∀ H', Ex H H' → Q (.str (mkS ((TL.tl x).drop 1))) H') ∧ (lk S nm = none → ∀ H', Ex H H' → E (.ref N) none H')
theorem body_ok (T : Md K mg base) (hk : 3 ≤ k) : CallOk P w K mg base k "body" ["store", "name", "kind"] (spBody T.C_Store T.NoSuch) := by
  obtain ⟨k, rfl⟩ : ∃ j, k = j + 1 := ⟨k - 1, by omega⟩
  refine T.d_body.okX (N := ["store", "name", "kind", "piece"]) sc_body (by rintro vs H Q E ⟨st, d, S, nm, kd, rfl, -⟩; rfl) ?_
  rintro f cdv A outer s H vs Q E hr ⟨st, d, S, nm, kd, rfl, ⟨⟨dx, hs⟩, hd⟩, wf, q, qe⟩
  refine ⟨_, (pss_cons (ps_set (i := 3) sc_body.nd rfl (Or.inl rfl) (pe_mX T.cl_Store (Store_get_ok T (by omega)) hr (passes_call (takes_of rfl rfl rfl rfl) fun _ _ _ _ z => z) (pv 0) (pa_cons (pv 1) pa_nil)))
    (pss_cons (ps_if (pt_cmpR op_ne (pe_slice sl_str (pv 3) po_none (po_some pe_int)) (pv 2) (nomark _)) (pss_one ps_never) pss_nil)
    (pss_one (ps_ret (pe_slice sl_str (pv 3) (po_some pe_int) po_none))))), ?_⟩
  refine mt_use (by walk_at "ev") hs rfl (by walk_at "ev") fun H1 e1 => ⟨st, d, S, nm, rfl, Sto.ex e1 ⟨⟨dx, hs⟩, hd⟩, wf, fun x hx H2 e2 => ?_, fun hx H2 e2 => qe hx H2 (e1.trans e2)⟩
  obtain ⟨hkd, q⟩ := q x hx
  have hz : x.length ≤ sizeLine := sz_of (Nat.le_trans (wf.sz _ (lk_mem hx)) (by decide))
  have e3 : V.str (cutS x none (some 1)) = V.str kd := by
    congr 1
    refine TL.ext_tl ?_
    rw [show (1 : Int) = ((1 : Nat) : Int) from rfl, cutS_to, hkd]
  have e4 : V.str (cutS x (some 1) none) = V.str (mkS ((TL.tl x).drop 1)) := by
    congr 1
    refine TL.ext_tl ?_
    rw [show (1 : Int) = ((1 : Nat) : Int) from rfl, cutS_from, tl_mkS]
  dsimp only
  refine q_when (b := false) (et_is (et_test (ev_op (ev_is (ev_slS (ev_var rfl) eo_none (eo_some ev_c) hz) e3) (ev_var rfl) (rv_ne rfl))) (by simp)) (by simp) fun _ H3 e5 => ?_
  exact s_ret (ev_is (ev_slS (ev_var rfl) (eo_some ev_c) eo_none hz) e4) fun H4 e6 => q H4 (((e1.trans e2).trans e5).trans e6)
end
end Kw


set_option Elab.async false
set_option linter.all false
set_option maxRecDepth 100000
set_option maxHeartbeats 4000000
/-! Tre2: rows_of, get_text, put_text. -/
namespace Kw
open PySem PySem.Spec PyProof.Rows L2 Evl
local macro_rules
  | `(tactic| walk_at "hp") => `(tactic| first
      | exact prp (by assumption)
      | exact rfl
      | exact upd_same
      | ((with_reducible apply sq_of); first | assumption | exact upd_same)
      | ((with_reducible apply st_of); first | assumption | exact upd_same)
      | ((with_reducible apply rd_of); first | assumption | exact upd_same)
      | ((with_reducible apply ex_l); assumption; walk_at "hp")
      | ((with_reducible apply ex_t); assumption; walk_at "hp")
      | ((with_reducible apply ex_rd); assumption; walk_at "hp")
      | ((with_reducible apply ex_at); assumption; walk_at "hp")
      | ((with_reducible apply Or.inl); walk_at "hp")
      | ((with_reducible apply Or.inr); walk_at "hp")
      | ((with_reducible apply LenD.lst); walk_at "hp")
      | ((with_reducible apply LenD.tup); walk_at "hp")
      | ((with_reducible apply LenD.dic); walk_at "hp")
      | ((with_reducible apply LenD.str); walk_at "hp")
      | ((with_reducible apply mulR); decide)
      | ((with_reducible apply mulL); decide)
      | decide
      | omega)
local macro_rules
  | `(tactic| walk_at "ev") => `(tactic| ((fail_if_success (with_reducible apply ev_bad)); (fail_if_success (with_reducible apply et_bad)); (fail_if_success (with_reducible apply ea_bad)); (fail_if_success (with_reducible apply en_bad)); first
      | ((with_reducible apply ev_var); exact rfl)
      | (with_reducible exact ev_c)
      | (with_reducible exact ea_nil)
      | (with_reducible exact eo_none)
      | ((with_reducible apply eo_some) <;> try walk_at "ev")
      | ((with_reducible apply ea_cons) <;> try walk_at "ev")
      | ((with_reducible apply ev_inTup) <;> try walk_at "ev")
      | ((with_reducible apply ev_niTup) <;> try walk_at "ev")
      | ((with_reducible apply ev_ixP) <;> try walk_at "ev")
      | (with_reducible exact rv_isN)
      | (with_reducible exact rv_notN)
      | ((with_reducible apply ev_op) <;> try walk_at "ev")
      | (with_reducible exact rv_I0)
      | ((with_reducible apply rv_I) <;> try walk_at "hp")
      | ((with_reducible apply rv_eq); exact rfl)
      | ((with_reducible apply rv_ne); exact rfl)
      | ((with_reducible apply rv_addS) <;> try walk_at "hp")
      | ((with_reducible apply rv_ixL); walk_at "hp"; walk_at "hp")
      | ((with_reducible apply rv_ixT); walk_at "hp"; walk_at "hp")
      | ((with_reducible apply ev_cb) <;> try walk_at "ev")
      | ((with_reducible apply rc_len); walk_at "hp")
      | (with_reducible exact rc_ord)
      | ((with_reducible apply rc_str) <;> try walk_at "hp")
      | (with_reducible exact rc_int)
      | (with_reducible exact rc_intB)
      | (with_reducible exact rc_abs)
      | (with_reducible exact rc_max2)
      | (with_reducible exact rc_min2)
      | ((with_reducible apply ev_joinN) <;> try walk_at "ev")
      | ((with_reducible apply ev_m1) <;> try walk_at "ev")
      | ((with_reducible apply rm_strip) <;> try walk_at "hp")
      | (with_reducible exact rm_starts)
      | ((with_reducible apply rm_join) <;> try walk_at "hp")
      | ((with_reducible apply ev_slS) <;> try walk_at "ev")
      | ((with_reducible apply ev_dget) <;> try walk_at "ev")
      | ((with_reducible apply ev_din) <;> try walk_at "ev")
      | ((with_reducible apply ev_dnotin) <;> try walk_at "ev")
      | ((with_reducible apply ev_fld) <;> try walk_at "ev")
      | ((with_reducible apply et_test) <;> try walk_at "ev")
      | ((with_reducible apply et_B) <;> try walk_at "ev")
      | ((with_reducible apply et_and) <;> try walk_at "ev")
      | ((with_reducible apply et_or) <;> try walk_at "ev")
      | ((with_reducible apply et_not) <;> try walk_at "ev")
      | (with_reducible exact en_dnew)
      | (with_reducible exact et_yes)
      | ((with_reducible apply ex_tup) <;> try walk_at "ev")
      | ((with_reducible apply en_slL) <;> try walk_at "ev")
      | ((with_reducible apply en_split) <;> try walk_at "ev")
      | ((with_reducible apply en_part) <;> try walk_at "ev")
      | walk_at "hp"
      | ((with_reducible refine fun hb => ?_); try walk_at "ev")))
local macro_rules
  | `(tactic| walk_at "lcf") => `(tactic| first
      | (intro _ _ _ _ _; exact rfl)
      | (intro _ _ _ _ _; dsimp only [Cx.blk]; done)
      | (intro _ _ _ _ _; dsimp only [Cx.blk]; exact rfl))
theorem cutN_flat (cs : List Nat) : ∀ n, n ≤ cs.length → (cutN cs n).1.flatten = cs.take (cutN cs n).2
  | 0, _ => rfl
  | n + 1, hn => by
    have ih := cutN_flat cs n (by omega)
    have hle := (cutN_le cs n).1
    rw [show cutN cs (n + 1) = stp cs (cutN cs n) (n + 1) from rfl]
    unfold stp
    split
    · show ((cutN cs n).1 ++ [_]).flatten = cs.take (n + 1)
      rw [List.flatten_append, ih]
      show cs.take (cutN cs n).2 ++ ((cs.take (n + 1)).drop (cutN cs n).2 ++ []) = _
      rw [List.append_nil]
      have e : cs.take (cutN cs n).2 = (cs.take (n + 1)).take (cutN cs n).2 := by rw [List.take_take, Nat.min_eq_left (by omega)]
      rw [e, List.take_append_drop]
    · exact ih
theorem cuts_flat (cs : List Nat) : (cuts cs).flatten = cs := by
  unfold cuts
  have h := cutN_flat cs _ (Nat.le_refl _)
  have hle := (cutN_le cs cs.length).1
  rw [List.flatten_append, h]
  split
  · show cs.take _ ++ (cs.drop _ ++ []) = cs
    rw [List.append_nil, List.take_append_drop]
  · rename_i z
    rw [List.take_of_length_le (by omega)]
    exact List.append_nil _
theorem joinL_nil : ∀ ps : List (List Nat), TL.joinL [] ps = ps.flatten
  | [] => rfl
  | [p] => by simp [TL.joinL]
  | p :: q :: r => by
    show p ++ ([] ++ TL.joinL [] (q :: r)) = _
    rw [joinL_nil (q :: r)]
    simp
theorem join_cuts (x : Str) : Txt.join "" (cutsS x) = x := by
  refine TL.ext_tl ?_
  rw [TL.join_eq, TL.tl_join, show TL.tl ("" : Str) = [] from by decide, joinL_nil]
  unfold cutsS
  rw [List.map_map, show (TL.tl ∘ mkS) = id from funext tl_mkS, List.map_id, cuts_flat]
/-- a name's signs -/
theorem name_free {S : Tb} (wf : WF S) {nm x : Str} (h : lk S nm = some x) {c : Nat} (hc : c < 46 ∨ c = 47 ∨ 57 < c) : c ∉ TL.tl nm := by
  obtain ⟨n, h1, h2⟩ := wf.nm _ (lk_mem h)
  rw [show nm = nameOf x n from h1]
  unfold nameOf headS
  rw [TL.tl_append, TL.tl_append, tl_numS, tl_numS, dot_tl]
  intro z
  rcases List.mem_append.mp z with z | z
  · rcases List.mem_append.mp z with z | z
    · exact TL.numL_free (by omega) z
    · rw [List.mem_singleton.mp z] at hc; omega
  · exact TL.numL_free (by omega) z
theorem name_ne {S : Tb} (wf : WF S) {nm x : Str} (h : lk S nm = some x) : nm ≠ "" := fun z => by
  obtain ⟨n, h1, h2⟩ := wf.nm _ (lk_mem h)
  have e : TL.tl nm = TL.tl (nameOf x n) := congrArg TL.tl h1
  rw [z] at e
  unfold nameOf at e
  rw [TL.tl_append, TL.tl_append, dot_tl] at e
  have e2 := congrArg List.length e
  rw [List.length_append, List.length_append] at e2
  rw [show (TL.tl ("" : Str)).length = 0 from by decide] at e2
  simp only [List.length_cons, List.length_nil] at e2
  omega
theorem drop1 (a : Str) (x : Str) (h : (TL.tl a).length = 1) : mkS ((TL.tl (a ++ x)).drop 1) = x := by
  refine TL.ext_tl ?_
  rw [tl_mkS, TL.tl_append, ← h, List.drop_left]
theorem take1 (a : Str) (x : Str) (h : (TL.tl a).length = 1) : (TL.tl (a ++ x)).take 1 = TL.tl a := by
  rw [TL.tl_append, ← h, List.take_left]
theorem str_ne_of_tl {x : Str} (h : TL.tl x ≠ []) : x ≠ "" := fun z => h (by rw [z]; decide)
theorem words_join {names : List Str} (h1 : ∀ n ∈ names, 32 ∉ TL.tl n) (h2 : ∀ n ∈ names, n ≠ "") : wordsL (Txt.join " " names) = names := by
  unfold wordsL
  cases names with
  | nil => rfl
  | cons n r =>
    have hn : TL.tl n ≠ [] := fun z => h2 n (List.mem_cons_self ..) (TL.ext_tl (by rw [z]; decide))
    have ne : Txt.join " " (n :: r) ≠ "" := str_ne_of_tl (by
      rw [TL.join_eq, TL.tl_join]
      cases r with
      | nil => exact hn
      | cons m q =>
        show TL.tl n ++ _ ≠ []
        intro z
        exact hn (List.append_eq_nil_iff.mp z).1)
    rw [if_neg ne]
    exact TL.split_join (s := 32) (S := []) (by decide) (by decide +kernel) (by simp) h1
section
variable {P : Program} {w : World} {K : PySem.W.Frag} {mg : Str → Option Value} {base : Heap} {k : Nat}
def rowsL (y : Str) : List (Str × Str) := (if y = "" then [] else Txt.split y "/").map fun row => ((Txt.partition row " ").1, (Txt.partition row " ").2.2)
def spRows (K : PySem.W.Frag) (C N : Addr) : Sp := fun vs H Q E => ∃ (st d : Addr) (S : Tb) (nm : Str), vs = [.ref st, .str nm] ∧ Sto C st d H S ∧ WF S ∧
  (∀ x, lk S nm = some x → (TL.tl x).take 1 = TL.tl ("t" : Str) ∧ ∀ p ts H', H p = none → Ex H H' → H' p = some (.tup (ts.map V.ref)) → Paired (fun q (r : Str × Str) => SqT K H' q [.str r.1, .str r.2]) ts (rowsL (mkS ((TL.tl x).drop 1))) → Q (.ref p) H') ∧
  (lk S nm = none → ∀ H', Ex H H' → E (.ref N) none H')
theorem spl_small (s : Nat) : ∀ (cs acc : List Nat), (∀ p ∈ TL.spl [s] 0 acc cs, p.length ≤ acc.length + cs.length) ∧ (TL.spl [s] 0 acc cs).length ≤ cs.length + 1
  | cs, acc => by
    by_cases h : s ∈ cs
    · obtain ⟨p, r, e1, e2⟩ : ∃ p r, cs = p ++ ([s] ++ r) ∧ s ∉ p := by
        have go : ∀ l : List Nat, s ∈ l → ∃ p r, l = p ++ ([s] ++ r) ∧ s ∉ p := fun l => by
          induction l with
          | nil => intro h; cases h
          | cons c l ih =>
            intro h
            by_cases z : c = s
            · exact ⟨[], l, by rw [z]; rfl, by simp⟩
            · obtain ⟨p, r, e1, e2⟩ := ih ((List.mem_cons.mp h).resolve_left (fun y => z y.symm))
              exact ⟨c :: p, r, by rw [e1]; rfl, fun y => (List.mem_cons.mp y).elim (fun y => z y.symm) e2⟩
        exact go cs h
      have hl : r.length < cs.length := by rw [e1]; simp; omega
      have ih := spl_small s r []
      rw [e1, TL.spl_part1 (S := []) e2]
      refine ⟨fun q hq => ?_, ?_⟩
      · rcases List.mem_cons.mp hq with rfl | hq
        · simp <;> omega
        · have z := ih.1 q hq
          simp at z ⊢
          omega
      · have z := ih.2
        simp
        omega
    · rw [TL.spl_last1 (S := []) h]
      exact ⟨fun q hq => by rw [List.mem_singleton.mp hq]; simp, by simp⟩
termination_by cs => cs.length
theorem split_small {x y : Str} {s : Nat} (hy : TL.tl y = [s]) (hk : y.cps.all (· < 256) = true) : (∀ p ∈ Txt.split x y, p.length ≤ x.length) ∧ (Txt.split x y).length ≤ x.length + 1 := by
  have e := TL.split_spl x y (by rw [hy]; simp) (TL.kind_ok hk)
  have z := spl_small s (TL.tl x) []
  rw [hy] at e
  rw [← e] at z
  refine ⟨fun p hp => ?_, ?_⟩
  · have w := z.1 _ (List.mem_map.mpr ⟨p, hp, rfl⟩)
    rw [len_tl', len_tl' x]
    simpa using w
  · have w := z.2
    rw [List.length_map] at w
    rw [len_tl' x]; exact w
theorem rows_of_ok (T : Md K mg base) (hk : 4 ≤ k) : CallOk P w K mg base k "rows_of" ["store", "name"] (spRows K T.C_Store T.NoSuch) := by
  obtain ⟨k, rfl⟩ : ∃ j, k = j + 1 := ⟨k - 1, by omega⟩
  refine T.d_rows_of.okX (N := ["store", "name", "found", "text", "row", "word", "blank", "inner"]) sc_rows_of (by rintro vs H Q E ⟨st, d, S, nm, rfl, -⟩; rfl) ?_
  rintro f cdv A outer s H vs Q E hr ⟨st, d, S, nm, rfl, ⟨⟨dx, hs⟩, hd⟩, wf, q, qe⟩
  refine ⟨_, (pss_cons (ps_set (i := 2) sc_rows_of.nd rfl (Or.inl rfl) (pe_lst pa_nil))
    (pss_cons (ps_set (i := 3) sc_rows_of.nd rfl (Or.inl rfl) (pe_cX (body_ok T (by omega)) hr (by rfl) (passes_call (takes_of rfl rfl rfl rfl) fun _ _ _ _ z => z) (pa_cons (pv 0) (pa_cons (pv 1) (pa_cons pe_str pa_nil)))))
    (pss_cons (ps_for (passes_of rfl) rfl (pi_list (pe_ifExp (pt_cmpR op_ne (pv 3) pe_str (nomark _)) (s_split (pv 3) pe_str) (pe_lst pa_nil))) (pg_name (i := 4) sc_rows_of.nd rfl (Or.inl rfl))
      (pss_cons (ps_asg (s_partition (pv 4) pe_str) (pg_tup (n := 3) rfl (pgs_cons (pg_name (i := 5) sc_rows_of.nd rfl (Or.inl rfl)) (pgs_cons (pg_name (i := 6) sc_rows_of.nd rfl (Or.inl rfl)) (pgs_cons (pg_name (i := 7) sc_rows_of.nd rfl (Or.inl rfl)) pgs_nil)))))
      (pss_one (ps_expr (pe_bm PySem.F.plainAttrs_list PySem.F.slot_list_append PySem.F.type_list_append mt_append (pv 2) (pa_cons (pe_tup (pa_cons (pv 5) (pa_cons (pv 7) pa_nil))) pa_nil))))))
    (pss_one (ps_ret (b_tupleL T.b (pa_cons (pv 2) pa_nil))))))), ?_⟩
  refine q_asgN en_lst0 fun F H1 hF e1 h1 => ?_
  refine cl_use (by walk_at "ev") fun H2 e2 => ⟨st, d, S, nm, "t", rfl, Sto.ex (e1.trans e2) ⟨⟨dx, hs⟩, hd⟩, wf, fun x hx => ?_, fun hx H3 e3 => qe hx H3 ((e1.trans e2).trans e3)⟩
  obtain ⟨ht, q⟩ := q x hx
  refine ⟨ht.symm, fun H3 e3 => ?_⟩
  have e03 := (e1.trans e2).trans e3
  have hxl := wf.sz _ (lk_mem hx)
  have hxl' : ((TL.tl x).drop 1).length ≤ 5000 := by rw [List.length_drop, ← len_tl']; exact Nat.le_trans (Nat.sub_le _ _) hxl
  have hzy : (mkS ((TL.tl x).drop 1)).length + 2 ≤ sizeLine := sz_of (by rw [len_tl', tl_mkS]; omega)
  generalize hy : mkS ((TL.tl x).drop 1) = y at q hzy ⊢
  have hsm := split_small (x := y) (y := ("/" : Str)) (s := 47) (by decide) (by decide +kernel)
  have hyl : y.length ≤ 5000 := by rw [← hy, len_tl', tl_mkS]; exact hxl'
  have rowsL_len : (if y = "" then [] else Txt.split y "/").length ≤ 5001 := by
    have := hsm.2
    split
    · simp
    · omega
  have rowsL_sz : ∀ r ∈ (if y = "" then [] else Txt.split y "/"), r.length ≤ 5000 := fun r hr => by
    split at hr
    · cases hr
    · have := hsm.1 r hr; omega
  generalize hrw : (if y = "" then [] else Txt.split y "/") = rws at rowsL_len rowsL_sz
  dsimp only
  refine q_forN (xs := rws.map V.str) ?hN (fun p i σ' H' => Ex H H' ∧ SqL K H' p (rws.map V.str) ∧ p ≠ F ∧ (∃ ts : List Addr, H' F = some (.lst (ts.map V.ref)) ∧ Paired (fun q (r : Str × Str) => SqT K H' q [.str r.1, .str r.2]) ts ((rws.take i).map fun row => ((Txt.partition row " ").1, (Txt.partition row " ").2.2))) ∧
    ∃ u4 u5 u6 u7, σ' = [some (.ref st), some (.str nm), some (.ref F), some (.str y), u4, u5, u6, u7]) ?_ ?_ ?_ ?_
  case hN =>
    refine en_if (b := !decide (V.str y = V.str "")) (by walk_at "ev") (fun hb => en_is (by walk_at "ev") ?_) (fun hb => en_is en_lst0 ?_)
    · rw [← hrw, if_neg (fun z => by rw [z] at hb; simp at hb)]
    · rw [← hrw, if_pos (by simpa using hb)]; rfl
  · intro p H4 hp e4 h4
    have hF4 : H3 F = some (.lst []) := e3 _ _ (e2 _ _ h1)
    exact ⟨e03.trans e4, sq_of h4, (fun z => by rw [z, hF4] at hp; cases hp), ⟨[], e4 _ _ hF4, .nil⟩, _, _, _, _, rfl⟩
  · rintro p i σ' H' _ ⟨_, h, _⟩
    exact h
  · rintro p i yv σ' H' hi ⟨e, hp, hne, ⟨ts, hF', hP⟩, u4, u5, u6, u7, rfl⟩
    obtain ⟨row, hrow, hri, rfl⟩ := map_at' hi
    have hzr : row.length ≤ sizeLine := sz_of (Nat.le_trans (rowsL_sz row hrow) (by decide))
    refine q_asgT3 (ex_N (en_part (by walk_at "ev") (by walk_at "ev") (by decide) hzr)) fun H4 e4 => ?_
    have htl : ts.length < 100000 := by
      have z := Paired.length hP
      rw [List.length_map, List.length_take] at z
      have : i < rws.length := (List.getElem?_eq_some_iff.mp hri).1
      omega
    refine s_appX (e4 _ _ hF') (by walk_at "ev") (ex_tup (K := K) (by walk_at "ev") (by simp)) (by rw [List.length_map]; exact htl) fun v H5 e5 hv => ?_
    obtain ⟨q5, rfl, hq5⟩ := hv
    have e45 := e4.trans e5
    have vt : Vt H5 (upd H5 F (.lst (ts.map V.ref ++ [V.ref q5]))) := vt_upd (e5 _ _ (e4 _ _ hF'))
    refine ⟨Ex.mut (e.trans e45) hF, ?_, hne, ⟨ts ++ [q5], by rw [upd_same, List.map_append]; rfl, ?_⟩, _, _, _, _, rfl⟩
    · rcases ex_l e45 hp with (g | ⟨o, g⟩) | g
      · exact .inl (.inl (by rw [upd_ne hne]; exact g))
      · exact .inl (.inr ⟨o, by rw [upd_ne hne]; exact g⟩)
      · exact .inr g
    · obtain ⟨hlt, rfl⟩ := List.getElem?_eq_some_iff.mp hri
      rw [List.take_succ_eq_append_getElem hlt, List.map_append]
      exact paired_snoc (gv_pair (fun _ _ h => vt_t vt (ex_t e45 h)) hP) (vt_t vt hq5)
  · rintro p σ' H' ⟨e, hp, hne, ⟨ts, hF', hP⟩, u4, u5, u6, u7, rfl⟩
    rw [List.length_map, List.take_length] at hP
    refine s_retN (en_tupL (by walk_at "ev") (sq_of hF')) fun r H4 hr4 e4 h4 => q r ts H4 (fresh_back e hr4) (e.trans e4) h4 ?_
    unfold rowsL
    rw [hrw]
    exact gv_pair (fun _ _ h => ex_t e4 h) hP
end
end Kw


set_option Elab.async false
set_option linter.all false
set_option maxRecDepth 100000
set_option maxHeartbeats 4000000
/-! Tre3: get_text, put_text. -/
namespace Kw
open PySem PySem.Spec PyProof.Rows L2 Evl
local macro_rules
  | `(tactic| walk_at "hp") => `(tactic| first
      | exact prp (by assumption)
      | exact rfl
      | exact upd_same
      | ((with_reducible apply sq_of); first | assumption | exact upd_same)
      | ((with_reducible apply st_of); first | assumption | exact upd_same)
      | ((with_reducible apply rd_of); first | assumption | exact upd_same)
      | ((with_reducible apply ex_l); assumption; walk_at "hp")
      | ((with_reducible apply ex_t); assumption; walk_at "hp")
      | ((with_reducible apply ex_rd); assumption; walk_at "hp")
      | ((with_reducible apply ex_at); assumption; walk_at "hp")
      | ((with_reducible apply Or.inl); walk_at "hp")
      | ((with_reducible apply Or.inr); walk_at "hp")
      | ((with_reducible apply LenD.lst); walk_at "hp")
      | ((with_reducible apply LenD.tup); walk_at "hp")
      | ((with_reducible apply LenD.dic); walk_at "hp")
      | ((with_reducible apply LenD.str); walk_at "hp")
      | ((with_reducible apply mulR); decide)
      | ((with_reducible apply mulL); decide)
      | decide
      | omega)
local macro_rules
  | `(tactic| walk_at "ev") => `(tactic| ((fail_if_success (with_reducible apply ev_bad)); (fail_if_success (with_reducible apply et_bad)); (fail_if_success (with_reducible apply ea_bad)); (fail_if_success (with_reducible apply en_bad)); first
      | ((with_reducible apply ev_var); exact rfl)
      | (with_reducible exact ev_c)
      | (with_reducible exact ea_nil)
      | (with_reducible exact eo_none)
      | ((with_reducible apply eo_some) <;> try walk_at "ev")
      | ((with_reducible apply ea_cons) <;> try walk_at "ev")
      | ((with_reducible apply ev_inTup) <;> try walk_at "ev")
      | ((with_reducible apply ev_niTup) <;> try walk_at "ev")
      | ((with_reducible apply ev_ixP) <;> try walk_at "ev")
      | (with_reducible exact rv_isN)
      | (with_reducible exact rv_notN)
      | ((with_reducible apply ev_op) <;> try walk_at "ev")
      | (with_reducible exact rv_I0)
      | ((with_reducible apply rv_I) <;> try walk_at "hp")
      | ((with_reducible apply rv_eq); exact rfl)
      | ((with_reducible apply rv_ne); exact rfl)
      | ((with_reducible apply rv_addS) <;> try walk_at "hp")
      | ((with_reducible apply rv_ixL); walk_at "hp"; walk_at "hp")
      | ((with_reducible apply rv_ixT); walk_at "hp"; walk_at "hp")
      | ((with_reducible apply ev_cb) <;> try walk_at "ev")
      | ((with_reducible apply rc_len); walk_at "hp")
      | (with_reducible exact rc_ord)
      | ((with_reducible apply rc_str) <;> try walk_at "hp")
      | (with_reducible exact rc_int)
      | (with_reducible exact rc_intB)
      | (with_reducible exact rc_abs)
      | (with_reducible exact rc_max2)
      | (with_reducible exact rc_min2)
      | ((with_reducible apply ev_joinN) <;> try walk_at "ev")
      | ((with_reducible apply ev_m1) <;> try walk_at "ev")
      | ((with_reducible apply rm_strip) <;> try walk_at "hp")
      | (with_reducible exact rm_starts)
      | ((with_reducible apply rm_join) <;> try walk_at "hp")
      | ((with_reducible apply ev_slS) <;> try walk_at "ev")
      | ((with_reducible apply ev_dget) <;> try walk_at "ev")
      | ((with_reducible apply ev_din) <;> try walk_at "ev")
      | ((with_reducible apply ev_dnotin) <;> try walk_at "ev")
      | ((with_reducible apply ev_fld) <;> try walk_at "ev")
      | ((with_reducible apply et_test) <;> try walk_at "ev")
      | ((with_reducible apply et_B) <;> try walk_at "ev")
      | ((with_reducible apply et_and) <;> try walk_at "ev")
      | ((with_reducible apply et_or) <;> try walk_at "ev")
      | ((with_reducible apply et_not) <;> try walk_at "ev")
      | (with_reducible exact en_dnew)
      | (with_reducible exact et_yes)
      | ((with_reducible apply ex_tup) <;> try walk_at "ev")
      | ((with_reducible apply en_slL) <;> try walk_at "ev")
      | ((with_reducible apply en_split) <;> try walk_at "ev")
      | ((with_reducible apply en_part) <;> try walk_at "ev")
      | walk_at "hp"
      | ((with_reducible refine fun hb => ?_); try walk_at "ev")))
local macro_rules
  | `(tactic| walk_at "lcf") => `(tactic| first
      | (intro _ _ _ _ _; exact rfl)
      | (intro _ _ _ _ _; dsimp only [Cx.blk]; done)
      | (intro _ _ _ _ _; dsimp only [Cx.blk]; exact rfl))
section
variable {σ : L2.St} {H : Hp} {t1 t2 t3 : TE}
theorem ev_body {C N st d : Addr} {S : Tb} {nm kd x : Str} {E : XK} (h1 : Ev t1 σ H (.ref st)) (h2 : Ev t2 σ H (.str nm)) (h3 : Ev t3 σ H (.str kd)) (hs : Sto C st d H S) (wf : WF S) (hx : lk S nm = some x) (hk : TL.tl kd = (TL.tl x).take 1) :
    Ev (tCall (spBody C N) [] E (tCons t1 (tCons t2 (tCons t3 tNil)))) σ H (.str (mkS ((TL.tl x).drop 1))) := fun H1 e Q q =>
  cl_use (vs := [.ref st, .str nm, .str kd]) (EvA.mono e (ea_cons h1 (ea_cons h2 (ea_cons h3 ea_nil)))) fun H2 e2 => ⟨st, d, S, nm, kd, rfl, hs.ex (e.trans e2), wf, fun y hy => by
    rw [hx] at hy
    cases hy
    exact ⟨hk, fun H3 e3 => q H3 (e2.trans e3)⟩, fun hy => by rw [hx] at hy; cases hy⟩
end
section
variable {P : Program} {w : World} {K : PySem.W.Frag} {mg : Str → Option Value} {base : Heap} {k : Nat}
def sGetText (C : Addr) : List V → Hp → V → Prop := fun vs H v => ∃ (st d : Addr) (S : Tb) (nm t : Str), vs = [.ref st, .str nm] ∧ Sto C st d H S ∧ WF S ∧ TxtAt S t nm ∧ t.length ≤ 200 ∧ v = .str t
theorem mono_gt {C : Addr} : Mono (sGetText C) := fun _ _ _ _ e ⟨st, d, S, nm, t, a, b, c⟩ => ⟨st, d, S, nm, t, a, b.ex e, c⟩
theorem cuts_cnt {t : Str} (h : t.length ≤ 200) : (cutsS t).length ≤ 201 := by
  unfold cutsS
  rw [List.length_map]
  have := cuts_len (TL.tl t)
  rw [← len_tl'] at this
  omega
theorem get_text_ok (T : Md K mg base) (hk : 4 ≤ k) : CallOk P w K mg base k "get_text" ["store", "name"] (spV (sGetText T.C_Store)) := by
  obtain ⟨k, rfl⟩ : ∃ j, k = j + 1 := ⟨k - 1, by omega⟩
  refine T.d_get_text.ok (N := ["store", "name", "one"]) sc_get_text (by rintro vs H Q E ⟨v, ⟨st, d, S, nm, t, rfl, -⟩, -⟩; rfl) ?_
  rintro f cdv A outer s H vs Q E hr ⟨v, ⟨st, d, S, nm, t, rfl, hs, wf, ⟨names, hP, hl⟩, ht, rfl⟩, q⟩
  refine ⟨_, (pss_one (ps_ret (s_join pe_str (pe_lcF (own := [("one", 2)]) rfl sc_get_text.nd (pi_list (pe_c (words_of_ok T (by omega)) hr (by rfl) (pa_cons (pe_c (body_ok T (by omega)) hr (by rfl) (pa_cons (pv 0) (pa_cons (pv 1) (pa_cons pe_str pa_nil)))) pa_nil))) (blkOk_by (own := [("one", 2)]) (N := ["store", "name", "one"]) (sc := defScope st_get_text) (by decide +kernel)) (fun _ _ _ _ _ => (by exact (pg_name (i := 2) sc_get_text.nd rfl (Or.inl rfl)))) (fun _ _ _ _ _ => (by exact pts_nil)) (fun _ _ _ _ _ => (by exact (pe_c (body_ok T (by omega)) hr (by rfl) (pa_cons (pv 0) (pa_cons (pv 2) (pa_cons pe_str pa_nil)))))) (by walk_at "lcf") (by walk_at "lcf") (by walk_at "lcf"))))), ?_⟩
  have hsz : (("l" : Str) ++ Txt.join " " names).length ≤ 5000 := wf.sz _ (lk_mem hl)
  have f1 : ∀ n ∈ names, ∃ c, lk S n = some (("p" : Str) ++ c) ∧ c ∈ cutsS t := fun n hn => by
    have go : ∀ {ns cs : List Str}, Paired (fun n c => lk S n = some (("p" : Str) ++ c)) ns cs → ∀ n ∈ ns, ∃ c, lk S n = some (("p" : Str) ++ c) ∧ c ∈ cs := fun {ns cs} h => by
      induction h with
      | nil => intro n hn; cases hn
      | cons h1 _ ih =>
        intro n hn
        rcases List.mem_cons.mp hn with rfl | hn
        · exact ⟨_, h1, List.mem_cons_self ..⟩
        · obtain ⟨c, a, b⟩ := ih n hn
          exact ⟨c, a, List.mem_cons_of_mem _ b⟩
    exact go hP n hn
  have f2 : wordsL (mkS ((TL.tl (("l" : Str) ++ Txt.join " " names)).drop 1)) = names := by
    rw [drop1 _ _ (by decide)]
    exact words_join (fun n hn => let ⟨c, a, _⟩ := f1 n hn; name_free wf a (by decide)) (fun n hn => let ⟨c, a, _⟩ := f1 n hn; name_ne wf a)
  have f3 : names.map (fun n => V.str (mkS ((TL.tl ((lk S n).getD "")).drop 1))) = (cutsS t).map V.str := by
    have go : ∀ {ns cs : List Str}, Paired (fun n c => lk S n = some (("p" : Str) ++ c)) ns cs → ns.map (fun n => V.str (mkS ((TL.tl ((lk S n).getD "")).drop 1))) = cs.map V.str := fun {ns cs} h => by
      induction h with
      | nil => rfl
      | cons h1 _ ih =>
        rw [List.map_cons, List.map_cons, ih, h1]
        show V.str (mkS ((TL.tl (("p" : Str) ++ _)).drop 1)) :: _ = _
        rw [drop1 _ _ (by decide)]
    exact go hP
  have hn1 : names.length ≤ 201 := by rw [Paired.length hP]; exact cuts_cnt ht
  refine s_ret (v := .str t) (ev_is (ev_joinN (ys := cutsS t) ev_c (en_is (en_lcT (α := Str) (f := fun n => V.str (mkS ((TL.tl ((lk S n).getD "")).drop 1))) (lc_N names V.str _ _ (en_is (en_cl mono_words (ea_cons (ev_body (ev_var rfl) (ev_var rfl) ev_c hs wf hl (by rw [take1 _ _ (by decide)])) ea_nil) ⟨_, rfl, ?_, rfl⟩) (by rw [f2])) (by omega) (fun _ => rfl) m_val (fun _ _ _ _ => et_yes) ?_)) (by rw [f3])) ?_) (by rw [join_cuts])) fun H1 e1 => q H1 e1
  · rw [len_tl', tl_mkS, List.length_drop, ← len_tl']; omega
  · intro n H1 hn _ e1
    obtain ⟨c, a, _⟩ := f1 n hn
    refine ev_x (ev_is (ev_body (ev_var rfl) (ev_var rfl) ev_c (hs.ex e1) wf a (by rw [take1 _ _ (by decide)])) (by rw [a]; rfl))
  · exact join_size (b := 200) (n := 201) (by decide) (fun y hy => cuts_sz ht hy) (cuts_cnt ht) (by decide)
def spPutText (C : Addr) : Sp := fun vs H Q _ => ∃ (st d : Addr) (S : Tb) (x : Str), vs = [.ref st, .str x] ∧ Sto C st d H S ∧ WF S ∧ x.length ≤ 200 ∧ S.length + 300 ≤ 90000 ∧
  ∀ nm S' H', WF S' → Grow S S' → S'.length ≤ S.length + 202 → TxtAt S' x nm → (∀ m, TxtAt S x m → S' = S) → Exb d H H' → H' d = some (.dK (tD S')) → Q (.str nm) H'
theorem yes_raw {σ : L2.St} {H : Hp} {A B : Hp → Prop} (h : A H) : tYes σ H (fun b H3 => if b = true then A H3 else B H3) := by
  show (if true = true then A H else B H)
  rw [if_pos rfl]
  exact h
theorem name_uniq {S : Tb} (wf : WF S) {m n x : Str} (h1 : lk S m = some x) (h2 : lk S n = some x) : m = n := by
  have a := nmOf_of wf.pd (lk_mem h1)
  rw [nmOf_of wf.pd (lk_mem h2)] at a
  exact (Option.some.inj a).symm
theorem paired_uniq {S : Tb} (wf : WF S) {f : Str → Str} : ∀ {ns ms cs : List Str}, Paired (fun n c => lk S n = some (f c)) ns cs → Paired (fun n c => lk S n = some (f c)) ms cs → ns = ms
  | _, _, _, .nil, .nil => rfl
  | _, _, _, .cons h1 r1, .cons h2 r2 => by rw [name_uniq wf h1 h2, paired_uniq wf r1 r2]
theorem paired_all {β γ : Type} {F : β → γ → Prop} : ∀ {xs : List β} {ys : List γ}, Paired F xs ys → ∀ y ∈ ys, ∃ x, F x y
  | _, _, .nil, y, h => by cases h
  | _, _, .cons h r, y, hy => by
    rcases List.mem_cons.mp hy with rfl | hy
    · exact ⟨_, h⟩
    · exact paired_all r y hy
theorem q_asgLcT {K : PySem.W.Frag} {σ : L2.St} {H : Hp} {tl te : TE} {tt : TT} {g : TG} {D : Ends} {tz : TS} {xs : List V} {vs : List Nat} {i : Nat} (h : EvX tl σ H (fun v H' => ∃ p, v = .ref p ∧ SqT K H' p xs))
    (body : ∀ p H1, Ex H H1 → SqT K H1 p xs → ∀ L, H1 L = none → ∃ Pv : Nat → Hp → Prop, Pv 0 (upd H1 L (.lst [])) ∧ (∀ i H', i ≤ xs.length → Pv i H' → SqT K H' p xs) ∧
      (∀ i x H', xs[i]? = some x → Pv i H' → g x (wipe σ vs) H' fun σ2 H2 => wipe σ2 vs = wipe σ vs ∧ tt σ2 H2 fun b H3 => if b = true then te σ2 H3 fun y H4 => ∃ acc, H4 L = some (.lst acc) ∧ acc.length < sizeLine ∧ Pv (i + 1) (upd H4 L (.lst (acc ++ [y]))) else Pv (i + 1) H3) ∧
      (∀ H', Pv xs.length H' → tz D (σ.set i (some (.ref L))) H')) : tSeq (tAsg (tLc (iTup K tl) g tt te vs) (gName i)) tz D σ H :=
  lcT_raw (Q := fun v H1 => tz D (σ.set i (some v)) H1) h body
theorem put_text_ok (T : Md K mg base) (hk : 4 ≤ k) : CallOk P w K mg base k "put_text" ["store", "text"] (spPutText T.C_Store) := by
  obtain ⟨k, rfl⟩ : ∃ j, k = j + 1 := ⟨k - 1, by omega⟩
  refine T.d_put_text.ok (N := ["store", "text", "names", "piece"]) sc_put_text (by rintro vs H Q E ⟨st, d, S, x, rfl, -⟩; rfl) ?_
  rintro f cdv A outer s H vs Q E hr ⟨st, d, S, x, rfl, ⟨⟨dx, hs⟩, hd⟩, wf, hx, hl, q⟩
  refine ⟨_, (pss_cons (ps_setLcF (own := [("piece", 3)]) (i := 2) rfl sc_put_text.nd rfl rfl (sw_true rfl rfl rfl (by decide +kernel)) (pi_tup (pe_c (told_ok T (by omega)) hr (by rfl) (pa_cons (pv 1) (pa_cons (pe_ix ix_tup (pe_gv T.c_BOUNDS) pe_int (fun _ _ => rfl)) (pa_cons (pe_ix ix_tup (pe_gv T.c_BOUNDS) pe_int (fun _ _ => rfl)) (pa_cons (pe_ix ix_tup (pe_gv T.c_BOUNDS) pe_int (fun _ _ => rfl)) (pa_cons (pe_ix ix_tup (pe_gv T.c_BOUNDS) pe_int (fun _ _ => rfl)) pa_nil))))))) (blkOk_by (own := [("piece", 3)]) (N := ["store", "text", "names", "piece"]) (sc := defScope st_put_text) (by decide +kernel)) (fun _ _ _ _ _ => (by exact (pg_name (i := 3) sc_put_text.nd rfl (Or.inl rfl)))) (fun _ _ _ _ _ => (by exact pts_nil)) (fun _ _ _ _ _ => (by exact (pe_m T.cl_Store (Store_put_ok T (by omega)) hr (pv 0) (pa_cons (pe_op op_add_str pe_str (pv 3)) pa_nil)))) (by walk_at "lcf") (by walk_at "lcf") (by walk_at "lcf"))
    (pss_one (ps_ret (pe_m T.cl_Store (Store_put_ok T (by omega)) hr (pv 0) (pa_cons (pe_op op_add_str pe_str (s_join pe_str (pv 2))) pa_nil))))), ?_⟩
  have hB := T.t_BOUNDS H
  have hcnt := cuts_cnt hx
  refine q_asgLcT (xs := (cutsS x).map V.str) (ex_N (en_cl mono_told (by walk_at "ev") ⟨x, rfl, by omega, rfl⟩)) fun p H1 e1 hp L hL => ?_
  have hd1 : H1 d = some (.dK (tD S)) := e1 _ _ hd
  have hs1 : H1 st = some (.ins T.C_Store dx [("pieces", .ref d)]) := e1 _ _ hs
  have hLd : L ≠ d := fun z => by rw [z, hd1] at hL; cases hL
  have hsd : st ≠ d := fun z => by rw [z, hd] at hs; cases hs
  refine ⟨fun i H' => ∃ (Si : Tb) (ns : List Str), WF Si ∧ Grow S Si ∧ Si.length ≤ S.length + i ∧ Paired (fun n c => lk Si n = some (("p" : Str) ++ c)) ns ((cutsS x).take i) ∧ ((∀ c ∈ (cutsS x).take i, nmOf S (("p" : Str) ++ c) ≠ none) → Si = S) ∧ Exb d H1 H' ∧ H' d = some (.dK (tD Si)) ∧ H' L = some (.lst (ns.map V.str)),
    ⟨S, [], wf, Grow.refl _, by omega, .nil, fun _ => rfl, exb_of (Ex.new hL), by rw [upd_ne (Ne.symm hLd)]; exact hd1, upd_same⟩, ?_, ?_, ?_⟩
  · rintro i H' _ ⟨Si, ns, _, _, _, _, _, ex, _, _⟩
    exact exb_t ex (rd_of hd1) hp
  · rintro i xv H' hi ⟨Si, ns, wfi, gr, hli, hP, hsame, ex, hd', hL'⟩
    obtain ⟨c, hc, hci, rfl⟩ := map_at' hi
    obtain ⟨hlt, hce⟩ := List.getElem?_eq_some_iff.mp hci
    refine ⟨rfl, yes_raw ?_⟩
    have hcs := cuts_sz hx hc
    have hp1 : ("p" : Str).length = 1 := by decide
    have hzp : ("p" : Str).length + c.length ≤ sizeLine := sz_of (by omega)
    refine mt_use (vs := [.str (("p" : Str) ++ c)]) (ev_var rfl) (ex _ _ hsd hs1) rfl (by walk_at "ev") fun H5 e5 => ⟨st, d, Si, ("p" : Str) ++ c, rfl, ⟨⟨dx, e5 _ _ (ex _ _ hsd hs1)⟩, e5 _ _ hd'⟩, wfi, by rw [len_app]; omega, by omega, fun nm S2 H6 hput ex6 hd6 => ?_⟩
    obtain ⟨wf2, hlk, gr2, hl2, hsm2⟩ := put_law wfi (by rw [len_app]; omega) (by omega) hput
    have hnl : ns.length < 100000 := by
      have z := Paired.length hP
      rw [List.length_take] at z
      omega
    refine ⟨ns.map V.str, ex6 _ _ hLd (e5 _ _ hL'), sz_lt (by rw [List.length_map]; exact hnl), S2, ns ++ [nm], wf2, gr.trans gr2, by omega, ?_, ?_, ?_, ?_, ?_⟩
    · rw [List.take_succ_eq_append_getElem hlt, hce]
      exact paired_snoc (gv_pair (fun _ _ h => gr2 _ _ h) hP) hlk
    · intro hall
      rw [List.take_succ_eq_append_getElem hlt, hce] at hall
      have e0 := hsame fun c' hc' => hall c' (List.mem_append_left _ hc')
      have z := hsm2 (by rw [e0]; exact hall c (List.mem_append_right _ (List.mem_singleton.mpr rfl)))
      rw [z, e0]
    · intro a o hne ho
      have hal : a ≠ L := fun z => by rw [z, hL] at ho; cases ho
      rw [upd_ne hal]
      exact ex6 _ _ hne (e5 _ _ (ex _ _ hne ho))
    · rw [upd_ne (Ne.symm hLd)]; exact hd6
    · rw [upd_same, List.map_append]; rfl
  · rintro H' ⟨Si, ns, wfi, gr, hli, hP, hsame, ex, hd', hL'⟩
    rw [List.length_map, List.take_length] at hP hsame
    rw [List.length_map] at hli
    have hnl : ns.length ≤ 201 := by rw [Paired.length hP]; exact hcnt
    have hns := paired_len_le wfi hP
    have hjs := join_size (a := (" " : Str)) (ys := ns) (b := 20) (n := 201) (by decide) hns hnl (by decide)
    have hjl := join_len (" " : Str) ns
    have h20 := sum_le 20 ns hns
    have hs1' : (" " : Str).length = 1 := by decide
    have hl1 : ("l" : Str).length = 1 := by decide
    have hjl2 : (Txt.join " " ns).length ≤ 4300 := by rw [hs1'] at hjl; omega
    have hzl : ("l" : Str).length + (Txt.join " " ns).length ≤ sizeLine := sz_of (by omega)
    refine mt_use (vs := [.str (("l" : Str) ++ Txt.join " " ns)]) (ev_var rfl) (ex _ _ hsd hs1) rfl (ea_cons (ev_op ev_c (ev_m1 ev_c (ev_var rfl) (rm_join (.inl (sq_of hL')) hjs)) (rv_addS hzl)) ea_nil) fun H5 e5 => ⟨st, d, Si, ("l" : Str) ++ Txt.join " " ns, rfl, ⟨⟨dx, e5 _ _ (ex _ _ hsd hs1)⟩, e5 _ _ hd'⟩, wfi, by rw [len_app]; omega, by omega, fun nm S2 H6 hput ex6 hd6 => ?_⟩
    obtain ⟨wf2, hlk, gr2, hl2, hsm2⟩ := put_law wfi (by rw [len_app]; omega) (by omega) hput
    refine q nm S2 H6 wf2 (gr.trans gr2) (by omega) ⟨ns, gv_pair (fun _ _ h => gr2 _ _ h) hP, hlk⟩ ?_ (fun a o hne ho => ex6 _ _ hne (e5 _ _ (ex _ _ hne (e1 _ _ ho)))) hd6
    rintro m ⟨ns0, P0, l0⟩
    have e0 : Si = S := hsame fun c hc => by
      obtain ⟨n, hn⟩ := paired_all P0 c hc
      rw [nmOf_of wf.pd (lk_mem hn)]
      exact fun z => by cases z
    subst e0
    have e1 : ns = ns0 := paired_uniq (f := fun c => ("p" : Str) ++ c) wfi hP P0
    rw [hsm2 (by rw [e1, nmOf_of wfi.pd (lk_mem l0)]; exact fun z => by cases z)]
end
end Kw


set_option Elab.async false
set_option linter.all false
set_option maxRecDepth 100000
set_option maxHeartbeats 4000000
/-! Tre4: put_folder. -/
namespace Kw
open PySem PySem.Spec PyProof.Rows L2 Evl
local macro_rules
  | `(tactic| walk_at "hp") => `(tactic| first
      | exact prp (by assumption)
      | exact rfl
      | exact upd_same
      | ((with_reducible apply sq_of); first | assumption | exact upd_same)
      | ((with_reducible apply st_of); first | assumption | exact upd_same)
      | ((with_reducible apply rd_of); first | assumption | exact upd_same)
      | ((with_reducible apply ex_l); assumption; walk_at "hp")
      | ((with_reducible apply ex_t); assumption; walk_at "hp")
      | ((with_reducible apply ex_rd); assumption; walk_at "hp")
      | ((with_reducible apply ex_at); assumption; walk_at "hp")
      | ((with_reducible apply Or.inl); walk_at "hp")
      | ((with_reducible apply Or.inr); walk_at "hp")
      | ((with_reducible apply LenD.lst); walk_at "hp")
      | ((with_reducible apply LenD.tup); walk_at "hp")
      | ((with_reducible apply LenD.dic); walk_at "hp")
      | ((with_reducible apply LenD.str); walk_at "hp")
      | ((with_reducible apply mulR); decide)
      | ((with_reducible apply mulL); decide)
      | decide
      | omega)
local macro_rules
  | `(tactic| walk_at "ev") => `(tactic| ((fail_if_success (with_reducible apply ev_bad)); (fail_if_success (with_reducible apply et_bad)); (fail_if_success (with_reducible apply ea_bad)); (fail_if_success (with_reducible apply en_bad)); first
      | ((with_reducible apply ev_var); exact rfl)
      | (with_reducible exact ev_c)
      | (with_reducible exact ea_nil)
      | (with_reducible exact eo_none)
      | ((with_reducible apply eo_some) <;> try walk_at "ev")
      | ((with_reducible apply ea_cons) <;> try walk_at "ev")
      | ((with_reducible apply ev_inTup) <;> try walk_at "ev")
      | ((with_reducible apply ev_niTup) <;> try walk_at "ev")
      | ((with_reducible apply ev_ixP) <;> try walk_at "ev")
      | (with_reducible exact rv_isN)
      | (with_reducible exact rv_notN)
      | ((with_reducible apply ev_op) <;> try walk_at "ev")
      | (with_reducible exact rv_I0)
      | ((with_reducible apply rv_I) <;> try walk_at "hp")
      | ((with_reducible apply rv_eq); exact rfl)
      | ((with_reducible apply rv_ne); exact rfl)
      | ((with_reducible apply rv_addS) <;> try walk_at "hp")
      | ((with_reducible apply rv_ixL); walk_at "hp"; walk_at "hp")
      | ((with_reducible apply rv_ixT); walk_at "hp"; walk_at "hp")
      | ((with_reducible apply ev_cb) <;> try walk_at "ev")
      | ((with_reducible apply rc_len); walk_at "hp")
      | (with_reducible exact rc_ord)
      | ((with_reducible apply rc_str) <;> try walk_at "hp")
      | (with_reducible exact rc_int)
      | (with_reducible exact rc_intB)
      | (with_reducible exact rc_abs)
      | (with_reducible exact rc_max2)
      | (with_reducible exact rc_min2)
      | ((with_reducible apply ev_joinN) <;> try walk_at "ev")
      | ((with_reducible apply ev_m1) <;> try walk_at "ev")
      | ((with_reducible apply rm_strip) <;> try walk_at "hp")
      | (with_reducible exact rm_starts)
      | ((with_reducible apply rm_join) <;> try walk_at "hp")
      | ((with_reducible apply ev_slS) <;> try walk_at "ev")
      | ((with_reducible apply ev_dget) <;> try walk_at "ev")
      | ((with_reducible apply ev_din) <;> try walk_at "ev")
      | ((with_reducible apply ev_dnotin) <;> try walk_at "ev")
      | ((with_reducible apply ev_fld) <;> try walk_at "ev")
      | ((with_reducible apply et_test) <;> try walk_at "ev")
      | ((with_reducible apply et_B) <;> try walk_at "ev")
      | ((with_reducible apply et_and) <;> try walk_at "ev")
      | ((with_reducible apply et_or) <;> try walk_at "ev")
      | ((with_reducible apply et_not) <;> try walk_at "ev")
      | (with_reducible exact en_dnew)
      | (with_reducible exact et_yes)
      | ((with_reducible apply ex_tup) <;> try walk_at "ev")
      | ((with_reducible apply en_slL) <;> try walk_at "ev")
      | ((with_reducible apply en_split) <;> try walk_at "ev")
      | ((with_reducible apply en_part) <;> try walk_at "ev")
      | walk_at "hp"
      | ((with_reducible refine fun hb => ?_); try walk_at "ev")))
local macro_rules
  | `(tactic| walk_at "lcf") => `(tactic| first
      | (intro _ _ _ _ _; exact rfl)
      | (intro _ _ _ _ _; dsimp only [Cx.blk]; done)
      | (intro _ _ _ _ _; dsimp only [Cx.blk]; exact rfl))
def rowStr (n i : Str) : Str := n ++ " " ++ i
/-- the rows that a folder's row comes back as -/
def backOf (F : Tb) (r : Str × Bool) : Tb := if r.2 = true then [(r.1, (lk F r.1).getD "")] else (can (partT F r.1)).map fun z => (r.1 ++ "/" ++ z.1, z.2)
def reb (F : Tb) : Tb := mrg [] ((nms F).flatMap (backOf F))
/-- a folder that stands: so many levels deep at most -/
def FolOk : Nat → Tb → Prop
  | 0, _ => False
  | d + 1, F => TbOk F ∧ (nms F).length ≤ 30 ∧ (∀ r ∈ nms F, r.1.length ≤ 100 ∧ r.1 ≠ "" ∧ 32 ∉ TL.tl r.1 ∧ 47 ∉ TL.tl r.1 ∧ (r.2 = true → ∃ x, lk F r.1 = some x ∧ x.length ≤ 200) ∧ (r.2 = false → FolOk d (partT F r.1))) ∧ TbOk (reb F) ∧ can (reb F) = can F ∧ ((nms F).flatMap (backOf F)).length ≤ 100
/-- the folder F stands in S under nm -/
def FolAt : Nat → Tb → Tb → Str → Prop
  | 0, _, _, _ => False
  | d + 1, S, F, nm => ∃ inners : List Str, Paired (fun i (r : Str × Bool) => if r.2 = true then TxtAt S ((lk F r.1).getD "") i else FolAt d S (partT F r.1) i) inners (nms F) ∧
      lk S nm = some (("t" : Str) ++ Txt.join "/" (((nms F).zip inners).map fun z => rowStr z.1.1 z.2))
theorem FolAt.grow {S S' : Tb} (g : Grow S S') : ∀ {d : Nat} {F : Tb} {nm : Str}, FolAt d S F nm → FolAt d S' F nm
  | 0, _, _, h => h
  | d + 1, F, nm, ⟨is, a, b⟩ => ⟨is, gv_pair (fun i r h => by
      by_cases c : r.2 = true
      · rw [if_pos c] at h ⊢; exact h.grow g
      · rw [if_neg c] at h ⊢; exact h.grow g) a, g _ _ b⟩
/-- what a folder may cost -/
def cst : Nat → Tb → Nat
  | 0, _ => 0
  | d + 1, F => 1 + ((nms F).map fun r => if r.2 = true then 202 else cst d (partT F r.1)).sum
/-- what stands of a row -/
def RowAt (d : Nat) (S F : Tb) (r : Str × Bool) (i : Str) : Prop := if r.2 = true then TxtAt S ((lk F r.1).getD "") i else FolAt d S (partT F r.1) i
theorem RowAt.grow {d : Nat} {S S' F : Tb} {r : Str × Bool} {i : Str} (g : Grow S S') (h : RowAt d S F r i) : RowAt d S' F r i := by
  unfold RowAt at *
  by_cases c : r.2 = true
  · rw [if_pos c] at h ⊢; exact h.grow g
  · rw [if_neg c] at h ⊢; exact h.grow g
theorem txt_uniq {S : Tb} (wf : WF S) {t m n : Str} (h1 : TxtAt S t m) (h2 : TxtAt S t n) : m = n := by
  obtain ⟨a, pa, la⟩ := h1
  obtain ⟨b, pb, lb⟩ := h2
  rw [paired_uniq (f := fun c => ("p" : Str) ++ c) wf pa pb] at la
  exact name_uniq wf la lb
theorem fol_uniq {S : Tb} (wf : WF S) : ∀ {d : Nat} {F : Tb} {m n : Str}, FolAt d S F m → FolAt d S F n → m = n
  | 0, _, _, _, h, _ => h.elim
  | d + 1, F, m, n, ⟨a, pa, la⟩, ⟨b, pb, lb⟩ => by
    have go : ∀ {xs ys : List Str} {rs : List (Str × Bool)}, Paired (fun i (r : Str × Bool) => if r.2 = true then TxtAt S ((lk F r.1).getD "") i else FolAt d S (partT F r.1) i) xs rs → Paired (fun i (r : Str × Bool) => if r.2 = true then TxtAt S ((lk F r.1).getD "") i else FolAt d S (partT F r.1) i) ys rs → xs = ys := fun {xs ys rs} h1 => by
      induction h1 generalizing ys with
      | nil => intro h2; cases h2; rfl
      | cons g1 _ ih =>
        intro h2
        cases h2 with
        | cons g2 r2 =>
          rw [ih r2]
          congr 1
          split at g1
          · rename_i c
            rw [if_pos c] at g2
            exact txt_uniq wf g1 g2
          · rename_i c
            rw [if_neg c] at g2
            exact fol_uniq wf g1 g2
    rw [go pa pb] at la
    exact name_uniq wf la lb
theorem rows_uniq {d : Nat} {S F : Tb} (wf : WF S) : ∀ {xs ys : List Str} {rs : List (Str × Bool)}, Paired (fun j r => RowAt d S F r j) xs rs → Paired (fun j r => RowAt d S F r j) ys rs → xs = ys
  | _, _, _, .nil, .nil => rfl
  | _, _, _, .cons g1 r1, .cons g2 r2 => by
    rw [rows_uniq wf r1 r2]
    congr 1
    unfold RowAt at g1 g2
    split at g1
    · rename_i c
      rw [if_pos c] at g2
      exact txt_uniq wf g1 g2
    · rename_i c
      rw [if_neg c] at g2
      exact fol_uniq wf g1 g2
section
variable {K : PySem.W.Frag} {σ : L2.St} {H : Hp} {te ta tb t1 t2 tl : TE} {t : TT} {D : Ends} {tz tu : TS} {g : TG} {v1 : V}
theorem q_asg_raw {i : Nat} (h : te σ H (fun v H1 => tz D (σ.set i (some v)) H1)) : tSeq (tAsg te (gName i)) tz D σ H := h
theorem if_raw {b : Bool} {Q : VK} (h : EvT t σ H b) (h1 : b = true → ∀ H1, Ex H H1 → ta σ H1 Q) (h2 : b = false → ∀ H1, Ex H H1 → tb σ H1 Q) : tIf t ta tb σ H Q := h H (Ex.refl H) _ fun H1 e => by
  cases b with
  | true => exact h1 rfl H1 e
  | false => exact h2 rfl H1 e
theorem mid_if {b : Bool} {Q : VK} (M : V → Hp → Prop) (h : EvT t σ H b) (k : ∀ v H1, M v H1 → Q v H1) (h1 : b = true → ∀ H1, Ex H H1 → (∀ v H2, M v H2 → Q v H2) → ta σ H1 Q) (h2 : b = false → ∀ H1, Ex H H1 → (∀ v H2, M v H2 → Q v H2) → tb σ H1 Q) : tIf t ta tb σ H Q :=
  if_raw h (fun z H1 e => h1 z H1 e k) fun z H1 e => h2 z H1 e k
theorem cl_use2 {sp : Sp} {E : XK} {Q : VK} {o : HO} (h1 : Ev t1 σ H v1) (h2 : EvN t2 σ H o) (q : ∀ p H1, H p = none → Ex H H1 → H1 p = some o → sp [v1, .ref p] H1 Q E) : tCall sp [] E (tCons t1 (tCons t2 tNil)) σ H Q :=
  h1 H (Ex.refl H) _ fun H1 e1 => h2 H1 e1 _ fun p H2 hp e2 h => q p H2 (fresh_back e1 hp) (e1.trans e2) h
/-- for over a tuple just made, its items known -/
theorem q_forTX {R : List V → Hp → Prop} (h : EvX tl σ H (fun v H' => ∃ p xs, v = .ref p ∧ SqT K H' p xs ∧ R xs H'))
    (body : ∀ p xs H1, Ex H H1 → SqT K H1 p xs → R xs H1 → ∃ Pv : Nat → L2.St → Hp → Prop, Pv 0 σ H1 ∧ (∀ i σ' H', i ≤ xs.length → Pv i σ' H' → SqT K H' p xs) ∧
      (∀ i x σ' H', xs[i]? = some x → Pv i σ' H' → g x σ' H' fun σ2 H2 => tu { D with nx := Pv (i + 1), ct := Pv (i + 1), bk := tz D } σ2 H2) ∧ (∀ σ' H', Pv xs.length σ' H' → tz D σ' H')) : tSeq (tFor (iTup K tl) g tu) tz D σ H :=
  h H (Ex.refl H) _ fun v H1 e1 hv => by
    obtain ⟨p, xs, rfl, hs, hr⟩ := hv
    obtain ⟨Pv, h0, hl, hst, hd⟩ := body p xs H1 e1 hs hr
    exact ⟨p, rfl, ⟨_, hs⟩, for_tup Pv h0 hl hst hd⟩
end
theorem ref_at {β : Type} {F : Addr → β → Prop} {ts : List Addr} {rs : List β} (h : Paired F ts rs) {i : Nat} {x : V} (hx : (ts.map V.ref)[i]? = some x) : ∃ a r, x = .ref a ∧ rs[i]? = some r ∧ F a r := by
  rw [List.getElem?_map] at hx
  cases e : ts[i]? with
  | none => rw [e] at hx; cases hx
  | some a =>
    rw [e] at hx
    cases hx
    obtain ⟨r, h1, h2⟩ := LiI.paired_get h e
    exact ⟨a, r, rfl, h1, h2⟩
section
variable {P : Program} {w : World} {K : PySem.W.Frag} {mg : Str → Option Value} {base : Heap} {k : Nat}
def spPutFolder (C P0 : Addr) (dep : Nat) : Sp := fun vs H Q _ => ∃ (st d tb : Addr) (S F : Tb), vs = [.ref st, .ref tb] ∧ Sto C st d H S ∧ Rd H tb (.dK (tD F)) ∧ tb ≠ d ∧ FolOk dep F ∧ Tab P0 H ∧ WF S ∧ S.length + cst dep F ≤ 89000 ∧
  ∀ nm S' H', WF S' → Grow S S' → S'.length ≤ S.length + cst dep F → FolAt dep S' F nm → (∀ m, FolAt dep S F m → S' = S) → Exb d H H' → H' d = some (.dK (tD S')) → Q (.str nm) H'
theorem put_folder_ok (T : Md K mg base) : ∀ (dep k : Nat), 4 + dep ≤ k → CallOk P w K mg base k "put_folder" ["store", "table"] (spPutFolder T.C_Store T.P0 dep) := by
  intro dep
  induction dep with
  | zero =>
    intro k hk
    obtain ⟨k, rfl⟩ : ∃ j, k = j + 1 := ⟨k - 1, by omega⟩
    refine T.d_put_folder.ok (N := ["store", "table", "rows", "name", "is_text", "inner"]) sc_put_folder (by rintro vs H Q E ⟨st, d, tb, S, F, rfl, -⟩; rfl) ?_
    rintro f cdv A outer s H vs Q E hr ⟨st, d, tb, S, F, rfl, _, _, _, h, _⟩
    exact h.elim
  | succ dep ih =>
    intro k hk
    obtain ⟨k, rfl⟩ : ∃ j, k = j + 1 := ⟨k - 1, by omega⟩
    refine T.d_put_folder.ok (N := ["store", "table", "rows", "name", "is_text", "inner"]) sc_put_folder (by rintro vs H Q E ⟨st, d, tb, S, F, rfl, -⟩; rfl) ?_
    rintro f cdv A outer s H vs Q E hr ⟨st, d, tb, S, F, rfl, ⟨⟨dx, hs⟩, hd⟩, htb, hne, ⟨ok, h30, hrow, _⟩, tab, wf, hl, q⟩
    refine ⟨_, (pss_cons (ps_set (i := 2) sc_put_folder.nd rfl (Or.inl rfl) (pe_lst pa_nil))
    (pss_cons (ps_for PassesOwn.never rfl (pi_tup (pe_c (names_in_ok T (by omega)) hr (by rfl) (pa_cons (pv 1) (pa_cons pe_str pa_nil)))) (pg_tup (n := 2) rfl (pgs_cons (pg_name (i := 3) sc_put_folder.nd rfl (Or.inl rfl)) (pgs_cons (pg_name (i := 4) sc_put_folder.nd rfl (Or.inl rfl)) pgs_nil)))
      (pss_cons (ps_set (i := 5) sc_put_folder.nd rfl (Or.inl rfl) (pe_ifExp (pt_val (pv 4)) (pe_c (put_text_ok T (by omega)) hr (by rfl) (pa_cons (pv 0) (pa_cons (pe_dget (hu_of hr) (pv 1) (pv 3) (fun _ _ => rfl)) pa_nil))) (pe_c (ih _ (by omega)) hr (by rfl) (pa_cons (pv 0) (pa_cons (pe_c (part_of_ok T (by omega)) hr (by rfl) (pa_cons (pv 1) (pa_cons (pv 3) pa_nil))) pa_nil)))))
      (pss_one (ps_expr (pe_bm PySem.F.plainAttrs_list PySem.F.slot_list_append PySem.F.type_list_append mt_append (pv 2) (pa_cons (pe_op op_add_str (pe_op op_add_str (pv 3) pe_str) (pv 5)) pa_nil))))))
    (pss_one (ps_ret (pe_m T.cl_Store (Store_put_ok T (by omega)) hr (pv 0) (pa_cons (pe_op op_add_str pe_str (s_join pe_str (pv 2))) pa_nil)))))), ?_⟩
    refine q_asgN en_lst0 fun R H1 hR e1 h1 => ?_
    have hsd : st ≠ d := fun z => by rw [z, hd] at hs; cases hs
    have hRd : R ≠ d := fun z => by rw [z, hd] at hR; cases hR
    refine q_forTX (K := K) (R := fun xs H' => ∃ ts : List Addr, xs = ts.map V.ref ∧ Paired (fun q (r : Str × Bool) => SqT K H' q [.str r.1, .bl r.2]) ts (nms F)) ?hN ?hB
    case hN =>
      intro H2 e2 Q2 q2
      refine cl_use (vs := [.ref tb, .str ""]) (by walk_at "ev") fun H3 e3 => ⟨tb, F, rfl, ex_rd ((e1.trans e2).trans e3) htb, ok, tab.ex ((e1.trans e2).trans e3), fun p ts H4 hp e4 h4 hP => q2 _ H4 (e3.trans e4) ⟨p, _, rfl, st_of h4, ts, rfl, hP⟩⟩
    case hB =>
      rintro p xs H2 e2 hp ⟨ts, rfl, hP⟩
      have e02 := e1.trans e2
      have hd2 : H2 d = some (.dK (tD S)) := e02 _ _ hd
      have hR2 : H2 R = some (.lst []) := e2 _ _ h1
      have htl : ts.length = (nms F).length := Paired.length hP
      refine ⟨fun i σ' H' => ∃ (Si : Tb) (is : List Str), WF Si ∧ Grow S Si ∧ Si.length ≤ S.length + (((nms F).take i).map fun r => if r.2 = true then 202 else cst dep (partT F r.1)).sum ∧ Paired (fun j r => RowAt dep Si F r j) is ((nms F).take i) ∧ ((∀ r ∈ (nms F).take i, ∃ m, RowAt dep S F r m) → Si = S) ∧
          (∀ q xs, SqT K H2 q xs → SqT K H' q xs) ∧ Exb d H H' ∧ H' d = some (.dK (tD Si)) ∧ H' R = some (.lst ((((nms F).take i).zip is).map fun z => V.str (rowStr z.1.1 z.2))) ∧ ∃ u3 u4 u5, σ' = [some (.ref st), some (.ref tb), some (.ref R), u3, u4, u5],
        ⟨S, [], wf, Grow.refl _, by simp, .nil, fun _ => rfl, fun _ _ h => h, exb_of e02, hd2, hR2, _, _, _, rfl⟩, ?_, ?_, ?_⟩
      · rintro i σ' H' _ ⟨Si, is, _, _, _, _, _, hT, _⟩
        exact hT _ _ hp
      · rintro i x σ' H' hi ⟨Si, is, wfi, gr, hli, hPi, hsame, hT, ex, hd', hR', u3, u4, u5, rfl⟩
        obtain ⟨a, r, rfl, hr, hq⟩ := ref_at hP hi
        obtain ⟨hlt, hre⟩ := List.getElem?_eq_some_iff.mp hr
        have hrm : r ∈ nms F := List.mem_of_getElem? hr
        obtain ⟨r1, r2, r3, r4, r5, r6⟩ := hrow r hrm
        have hsum : ((nms F).map fun r => if r.2 = true then 202 else cst dep (partT F r.1)).sum ≥ (((nms F).take i).map fun r => if r.2 = true then 202 else cst dep (partT F r.1)).sum + (if r.2 = true then 202 else cst dep (partT F r.1)) := by
          have e : nms F = (nms F).take i ++ (nms F)[i] :: (nms F).drop (i + 1) := by rw [List.getElem_cons_drop, List.take_append_drop]
          conv => lhs; rw [e]
          rw [List.map_append, List.sum_append, List.map_cons, List.sum_cons, hre]
          omega
        have hl' : S.length + (1 + ((nms F).map fun r => if r.2 = true then 202 else cst dep (partT F r.1)).sum) ≤ 89000 := hl
        refine g_tup2 (hT _ _ hq) ?_
        refine q_asg_raw (mid_if (b := r.2) (fun v H5 => ∃ inner Si', v = .str inner ∧ WF Si' ∧ Grow Si Si' ∧ Si'.length ≤ Si.length + (if r.2 = true then 202 else cst dep (partT F r.1)) ∧ RowAt dep Si' F r inner ∧ ((∃ m, RowAt dep Si F r m) → Si' = Si) ∧ Exb d H' H5 ∧ H5 d = some (.dK (tD Si'))) (by walk_at "ev") ?_ ?_ ?_)
        · rintro v H5 ⟨inner, S5, rfl, wf5, gr5, hl5, hat, hsm5, ex5, hd5⟩
          have hin : inner.length ≤ 20 := by
            unfold RowAt at hat
            split at hat
            · obtain ⟨_, _, z⟩ := hat; exact wf_name wf5 z
            · cases dep with
              | zero => exact hat.elim
              | succ dep => obtain ⟨_, _, z⟩ := hat; exact wf_name wf5 z
          have hs1 : (" " : Str).length = 1 := by decide
          have hz1 : r.1.length + (" " : Str).length ≤ sizeLine := sz_of (by omega)
          have hz2 : (r.1 ++ (" " : Str)).length + inner.length ≤ sizeLine := sz_of (by rw [len_app]; omega)
          have hisl : is.length = ((nms F).take i).length := Paired.length hPi
          refine s_app (v := .str (rowStr r.1 inner)) (ex5 _ _ hRd hR') (by walk_at "ev") (ev_op (ev_op (ev_var rfl) ev_c (rv_addS hz1)) (ev_var rfl) (rv_addS hz2)) (by rw [List.length_map, List.length_zip, hisl, List.length_take]; omega) fun H6 e6 => ?_
          refine ⟨S5, is ++ [inner], wf5, gr.trans gr5, ?_, ?_, ?_, ?_, ?_, ?_, ?_, _, _, _, rfl⟩
          · rw [List.take_succ_eq_append_getElem hlt, hre, List.map_append, List.sum_append]
            simp only [List.map_cons, List.map_nil, List.sum_cons, List.sum_nil]
            omega
          · rw [List.take_succ_eq_append_getElem hlt, hre]
            exact paired_snoc (gv_pair (fun _ _ h => h.grow gr5) hPi) hat
          · intro hall
            rw [List.take_succ_eq_append_getElem hlt, hre] at hall
            have z0 := hsame fun r' hr' => hall r' (List.mem_append_left _ hr')
            have z1 := hsm5 (by rw [z0]; exact hall r (List.mem_append_right _ (List.mem_singleton.mpr rfl)))
            rw [z1, z0]
          · intro q ys hq
            exact vt_t (vt_upd (e6 _ _ (ex5 _ _ hRd hR'))) (ex_t e6 (exb_t ex5 (rd_of hd') (hT _ _ hq)))
          · intro b o hb ho
            have hbR : b ≠ R := fun z => by rw [z, hR] at ho; cases ho
            rw [upd_ne hbR]
            exact e6 _ _ (ex5 _ _ hb (ex _ _ hb ho))
          · rw [upd_ne (Ne.symm hRd)]; exact e6 _ _ hd5
          · rw [upd_same, List.take_succ_eq_append_getElem hlt, hre, List.zip_append hisl.symm, List.map_append]
            rfl
        · intro hb H3 e3 kk
          obtain ⟨x, hx, hxl⟩ := r5 hb
          have htb3 : Rd H3 tb (.dK (tD F)) := ex_rd e3 (exb_dk ex hne htb)
          refine cl_use (vs := [.ref st, .str x]) (ea_cons (ev_var rfl) (ea_cons (ev_dget (k := .inr r.1) (ev_var rfl) (ev_var rfl) htb3 (by rw [en_look inr_inj', hx]; rfl)) ea_nil)) fun H4 e4 => ⟨st, d, Si, x, rfl, ⟨⟨dx, e4 _ _ (e3 _ _ (ex _ _ hsd hs))⟩, e4 _ _ (e3 _ _ hd')⟩, wfi, hxl, by rw [if_pos hb] at hsum; omega, fun nm S' H5 wf5 gr5 hl5 hat hsm5 ex5 hd5 => kk _ _ ⟨nm, S', rfl, wf5, gr5, by rw [if_pos hb]; exact hl5, ?_, ?_, fun b o hne ho => ex5 _ _ hne (e4 _ _ (e3 _ _ ho)), hd5⟩⟩
          · unfold RowAt; rw [if_pos hb, hx]; exact hat
          · rintro ⟨m, hm⟩
            unfold RowAt at hm
            rw [if_pos hb, hx] at hm
            exact hsm5 m hm
        · intro hb H3 e3 kk
          have hb' : ¬ r.2 = true := by rw [hb]; decide
          have htb3 : Rd H3 tb (.dK (tD F)) := ex_rd e3 (exb_dk ex hne htb)
          have hPd : T.P0 ≠ d := fun z => by
            have tab' : H T.P0 = some (.ext (tabF T.P0)) := tab
            rw [z, hd] at tab'
            cases tab'
          have tab3 : Tab T.P0 H3 := e3 _ _ (ex _ _ hPd tab)
          refine cl_use2 (ev_var rfl) (en_cl mono_po (by walk_at "ev") ⟨tb, F, r.1, rfl, htb3, ok, tab3, by omega, r2, rfl⟩) fun pp H4 hpp e4 h4 => ⟨st, d, pp, Si, partT F r.1, rfl, ⟨⟨dx, e4 _ _ (e3 _ _ (ex _ _ hsd hs))⟩, e4 _ _ (e3 _ _ hd')⟩, rd_of h4, (fun z => by rw [z, e3 _ _ hd'] at hpp; cases hpp), r6 hb, tab3.ex e4, wfi, by rw [if_neg hb'] at hsum; omega, fun nm S' H5 wf5 gr5 hl5 hat hsm5 ex5 hd5 => kk _ _ ⟨nm, S', rfl, wf5, gr5, by rw [if_neg hb']; exact hl5, ?_, ?_, fun b o hne ho => ex5 _ _ hne (e4 _ _ (e3 _ _ ho)), hd5⟩⟩
          · unfold RowAt; rw [if_neg hb']; exact hat
          · rintro ⟨m, hm⟩
            unfold RowAt at hm
            rw [if_neg hb'] at hm
            exact hsm5 m hm
      · rintro σ' H' ⟨Si, is, wfi, gr, hli, hPi, hsame, hT, ex, hd', hR', u3, u4, u5, rfl⟩
        rw [List.length_map, htl, List.take_length] at hli hPi hsame hR'
        have hl' : S.length + (1 + ((nms F).map fun r => if r.2 = true then 202 else cst dep (partT F r.1)).sum) ≤ 89000 := hl
        have hisl : is.length = (nms F).length := Paired.length hPi
        have hrs : ∀ y ∈ ((nms F).zip is).map (fun z => rowStr z.1.1 z.2), y.length ≤ 121 := fun y hy => by
          obtain ⟨z, hz, rfl⟩ := List.mem_map.mp hy
          have hz1 := (hrow z.1 (zip_in hz)).1
          obtain ⟨j, j1, j2⟩ := zip_at hz
          have hz2 : z.2.length ≤ 20 := by
            obtain ⟨r, hr, hat⟩ := LiI.paired_get hPi j2
            unfold RowAt at hat
            split at hat
            · obtain ⟨_, _, y⟩ := hat; exact wf_name wfi y
            · cases dep with
              | zero => exact hat.elim
              | succ dep => obtain ⟨_, _, y⟩ := hat; exact wf_name wfi y
          have hs1 : (" " : Str).length = 1 := by decide
          unfold rowStr
          rw [len_app, len_app]
          omega
        have hcn : (((nms F).zip is).map (fun z => rowStr z.1.1 z.2)).length ≤ 30 := by rw [List.length_map, List.length_zip]; omega
        have hjs := join_size (a := ("/" : Str)) (b := 121) (n := 30) (by decide) hrs hcn (by decide)
        have hjl := join_len ("/" : Str) (((nms F).zip is).map (fun z => rowStr z.1.1 z.2))
        have h20 := sum_le 121 _ hrs
        have hs1' : ("/" : Str).length = 1 := by decide
        have ht1 : ("t" : Str).length = 1 := by decide
        have hjl2 : (Txt.join "/" (((nms F).zip is).map (fun z => rowStr z.1.1 z.2))).length ≤ 4000 := by rw [hs1'] at hjl; omega
        have hzl : ("t" : Str).length + (Txt.join "/" (((nms F).zip is).map (fun z => rowStr z.1.1 z.2))).length ≤ sizeLine := sz_of (by omega)
        have hR3 : SqL K H' R ((((nms F).zip is).map (fun z => rowStr z.1.1 z.2)).map V.str) := by rw [List.map_map]; exact sq_of hR'
        dsimp only
        refine mt_use (vs := [.str (("t" : Str) ++ Txt.join "/" (((nms F).zip is).map (fun z => rowStr z.1.1 z.2)))]) (ev_var rfl) (ex _ _ hsd hs) rfl (ea_cons (ev_op ev_c (ev_m1 ev_c (ev_var rfl) (rm_join (.inl hR3) hjs)) (rv_addS hzl)) ea_nil) fun H5 e5 => ⟨st, d, Si, _, rfl, ⟨⟨dx, e5 _ _ (ex _ _ hsd hs)⟩, e5 _ _ hd'⟩, wfi, by rw [len_app]; omega, by omega, fun nm S2 H6 hput ex6 hd6 => ?_⟩
        obtain ⟨wf2, hlk, gr2, hl2, hsm2⟩ := put_law wfi (by rw [len_app]; omega) (by omega) hput
        have hcst : cst (dep + 1) F = 1 + ((nms F).map fun r => if r.2 = true then 202 else cst dep (partT F r.1)).sum := rfl
        refine q nm S2 H6 wf2 (gr.trans gr2) (by omega) ⟨is, gv_pair (fun _ _ h => RowAt.grow gr2 h) hPi, hlk⟩ ?_ (fun b o hb ho => ex6 _ _ hb (e5 _ _ (ex _ _ hb ho))) hd6
        rintro m ⟨is0, P0, l0⟩
        have e0 : Si = S := hsame fun r hr => by
          obtain ⟨n, hn⟩ := paired_all P0 r hr
          exact ⟨n, hn⟩
        subst e0
        have e1 : is = is0 := rows_uniq wfi hPi P0
        rw [hsm2 (by rw [e1, nmOf_of wfi.pd (lk_mem l0)]; exact fun z => by cases z)]
end
end Kw


set_option Elab.async false
set_option linter.all false
set_option maxRecDepth 100000
set_option maxHeartbeats 4000000
/-! Tre5: get_folder. -/
namespace Kw
open PySem PySem.Spec PyProof.Rows L2 Evl
local macro_rules
  | `(tactic| walk_at "hp") => `(tactic| first
      | exact prp (by assumption)
      | exact rfl
      | exact upd_same
      | ((with_reducible apply sq_of); first | assumption | exact upd_same)
      | ((with_reducible apply st_of); first | assumption | exact upd_same)
      | ((with_reducible apply rd_of); first | assumption | exact upd_same)
      | ((with_reducible apply ex_l); assumption; walk_at "hp")
      | ((with_reducible apply ex_t); assumption; walk_at "hp")
      | ((with_reducible apply ex_rd); assumption; walk_at "hp")
      | ((with_reducible apply ex_at); assumption; walk_at "hp")
      | ((with_reducible apply Or.inl); walk_at "hp")
      | ((with_reducible apply Or.inr); walk_at "hp")
      | ((with_reducible apply LenD.lst); walk_at "hp")
      | ((with_reducible apply LenD.tup); walk_at "hp")
      | ((with_reducible apply LenD.dic); walk_at "hp")
      | ((with_reducible apply LenD.str); walk_at "hp")
      | ((with_reducible apply mulR); decide)
      | ((with_reducible apply mulL); decide)
      | decide
      | omega)
local macro_rules
  | `(tactic| walk_at "ev") => `(tactic| ((fail_if_success (with_reducible apply ev_bad)); (fail_if_success (with_reducible apply et_bad)); (fail_if_success (with_reducible apply ea_bad)); (fail_if_success (with_reducible apply en_bad)); first
      | ((with_reducible apply ev_var); exact rfl)
      | (with_reducible exact ev_c)
      | (with_reducible exact ea_nil)
      | (with_reducible exact eo_none)
      | ((with_reducible apply eo_some) <;> try walk_at "ev")
      | ((with_reducible apply ea_cons) <;> try walk_at "ev")
      | ((with_reducible apply ev_inTup) <;> try walk_at "ev")
      | ((with_reducible apply ev_niTup) <;> try walk_at "ev")
      | ((with_reducible apply ev_ixP) <;> try walk_at "ev")
      | (with_reducible exact rv_isN)
      | (with_reducible exact rv_notN)
      | ((with_reducible apply ev_op) <;> try walk_at "ev")
      | (with_reducible exact rv_I0)
      | ((with_reducible apply rv_I) <;> try walk_at "hp")
      | ((with_reducible apply rv_eq); exact rfl)
      | ((with_reducible apply rv_ne); exact rfl)
      | ((with_reducible apply rv_addS) <;> try walk_at "hp")
      | ((with_reducible apply rv_ixL); walk_at "hp"; walk_at "hp")
      | ((with_reducible apply rv_ixT); walk_at "hp"; walk_at "hp")
      | ((with_reducible apply ev_cb) <;> try walk_at "ev")
      | ((with_reducible apply rc_len); walk_at "hp")
      | (with_reducible exact rc_ord)
      | ((with_reducible apply rc_str) <;> try walk_at "hp")
      | (with_reducible exact rc_int)
      | (with_reducible exact rc_intB)
      | (with_reducible exact rc_abs)
      | (with_reducible exact rc_max2)
      | (with_reducible exact rc_min2)
      | ((with_reducible apply ev_joinN) <;> try walk_at "ev")
      | ((with_reducible apply ev_m1) <;> try walk_at "ev")
      | ((with_reducible apply rm_strip) <;> try walk_at "hp")
      | (with_reducible exact rm_starts)
      | ((with_reducible apply rm_join) <;> try walk_at "hp")
      | ((with_reducible apply ev_slS) <;> try walk_at "ev")
      | ((with_reducible apply ev_dget) <;> try walk_at "ev")
      | ((with_reducible apply ev_din) <;> try walk_at "ev")
      | ((with_reducible apply ev_dnotin) <;> try walk_at "ev")
      | ((with_reducible apply ev_fld) <;> try walk_at "ev")
      | ((with_reducible apply et_test) <;> try walk_at "ev")
      | ((with_reducible apply et_B) <;> try walk_at "ev")
      | ((with_reducible apply et_and) <;> try walk_at "ev")
      | ((with_reducible apply et_or) <;> try walk_at "ev")
      | ((with_reducible apply et_not) <;> try walk_at "ev")
      | (with_reducible exact en_dnew)
      | (with_reducible exact et_yes)
      | ((with_reducible apply ex_tup) <;> try walk_at "ev")
      | ((with_reducible apply en_slL) <;> try walk_at "ev")
      | ((with_reducible apply en_split) <;> try walk_at "ev")
      | ((with_reducible apply en_part) <;> try walk_at "ev")
      | walk_at "hp"
      | ((with_reducible refine fun hb => ?_); try walk_at "ev")))
local macro_rules
  | `(tactic| walk_at "lcf") => `(tactic| first
      | (intro _ _ _ _ _; exact rfl)
      | (intro _ _ _ _ _; dsimp only [Cx.blk]; done)
      | (intro _ _ _ _ _; dsimp only [Cx.blk]; exact rfl))
theorem tl_ne {x : Str} (h : x ≠ "") : TL.tl x ≠ [] := fun z => h (TL.ext_tl (by rw [z]; decide))
theorem joinL_ne {S p : List Nat} {r : List (List Nat)} (h : p ≠ []) : TL.joinL S (p :: r) ≠ [] := by
  cases r with
  | nil => exact h
  | cons q r => exact fun z => h (List.append_eq_nil_iff.mp z).1
theorem rows_join {zs : List (Str × Str)} (h1 : ∀ z ∈ zs, z.1 ≠ "" ∧ 32 ∉ TL.tl z.1 ∧ 47 ∉ TL.tl z.1 ∧ 47 ∉ TL.tl z.2) : rowsL (Txt.join "/" (zs.map fun z => rowStr z.1 z.2)) = zs := by
  unfold rowsL
  have hpart : ∀ z ∈ zs, ((Txt.partition (rowStr z.1 z.2) " ").1, (Txt.partition (rowStr z.1 z.2) " ").2.2) = z := fun z hz => by
    unfold rowStr
    rw [TL.partition_app (a := z.1) (b := z.2) (s := 32) (S := []) (by decide) (h1 z hz).2.1]
  cases zs with
  | nil => rfl
  | cons z r =>
    have hz := h1 z (List.mem_cons_self ..)
    have ne : Txt.join "/" ((z :: r).map fun z => rowStr z.1 z.2) ≠ "" := str_ne_of_tl (by
      rw [TL.join_eq, TL.tl_join]
      refine joinL_ne ?_
      unfold rowStr
      rw [TL.tl_append, TL.tl_append]
      exact fun y => tl_ne hz.1 (List.append_eq_nil_iff.mp (List.append_eq_nil_iff.mp y).1).1)
    rw [if_neg ne, TL.split_join (s := 47) (S := []) (by decide) (by decide +kernel) (by simp) (fun y hy => ?_), List.map_map]
    · conv => rhs; rw [← List.map_id (z :: r)]
      exact List.map_congr_left fun y hy => hpart y hy
    · obtain ⟨y', hy', rfl⟩ := List.mem_map.mp hy
      obtain ⟨_, _, g1, g2⟩ := h1 y' hy'
      unfold rowStr
      rw [TL.tl_append, TL.tl_append]
      intro q
      rcases List.mem_append.mp q with q | q
      · rcases List.mem_append.mp q with q | q
        · exact g1 q
        · revert q; decide
      · exact g2 q
section
variable {σ : L2.St} {H : Hp} {t1 t2 : TE}
theorem ev_get {C N st d dx : Addr} {S : Tb} {nm x : Str} {E : XK} (h1 : Ev t1 σ H (.ref st)) (h2 : Ev t2 σ H (.str nm)) (hs : H st = some (.ins C dx [("pieces", .ref d)])) (hd : H d = some (.dK (tD S))) (wf : WF S) (hx : lk S nm = some x) :
    Ev (tMeth C "get" (spGet C N) [] E t1 (tCons t2 tNil)) σ H (.str x) := fun H1 e Q q =>
  mt_use (vs := [.str nm]) (ev_mono h1 e) (e _ _ hs) rfl (EvA.mono e (ea_cons h2 ea_nil)) fun H2 e2 => ⟨st, d, S, nm, rfl, Sto.ex (e.trans e2) ⟨⟨dx, hs⟩, hd⟩, wf, fun y hy H3 e3 => by
    rw [hx] at hy
    cases hy
    exact q H3 (e2.trans e3), fun hy => by rw [hx] at hy; cases hy⟩
end
section
variable {P : Program} {w : World} {K : PySem.W.Frag} {mg : Str → Option Value} {base : Heap} {k : Nat}
def sGetFolder (C P0 : Addr) (dep : Nat) : List V → Hp → HO → Prop := fun vs H o => ∃ (st d : Addr) (S F : Tb) (nm : Str), vs = [.ref st, .str nm] ∧ Sto C st d H S ∧ WF S ∧ FolOk dep F ∧ FolAt dep S F nm ∧ Tab P0 H ∧ o = .dK (tD (can F))
theorem mono_gf {C P0 : Addr} {dep : Nat} : Mono (sGetFolder C P0 dep) := fun _ _ _ _ e ⟨st, d, S, F, nm, a, b, c, f, g, t, o⟩ => ⟨st, d, S, F, nm, a, b.ex e, c, f, g, t.ex e, o⟩
theorem get_folder_ok (T : Md K mg base) : ∀ (dep k : Nat), 5 + dep ≤ k → CallOk P w K mg base k "get_folder" ["store", "name"] (spN (sGetFolder T.C_Store T.P0 dep)) := by
  intro dep
  induction dep with
  | zero =>
    intro k hk
    obtain ⟨k, rfl⟩ : ∃ j, k = j + 1 := ⟨k - 1, by omega⟩
    refine T.d_get_folder.ok (N := ["store", "name", "found", "word", "inner", "path", "text"]) sc_get_folder (by rintro vs H Q E ⟨o, ⟨st, d, S, F, nm, rfl, -⟩, -⟩; rfl) ?_
    rintro f cdv A outer s H vs Q E hr ⟨o, ⟨st, d, S, F, nm, rfl, _, _, h, _⟩, _⟩
    exact h.elim
  | succ dep ih =>
    intro k hk
    obtain ⟨k, rfl⟩ : ∃ j, k = j + 1 := ⟨k - 1, by omega⟩
    refine T.d_get_folder.ok (N := ["store", "name", "found", "word", "inner", "path", "text"]) sc_get_folder (by rintro vs H Q E ⟨o, ⟨st, d, S, F, nm, rfl, -⟩, -⟩; rfl) ?_
    rintro f cdv A outer s H vs Q E hr ⟨o, ⟨st, d, S, F, nm, rfl, ⟨⟨dx, hs⟩, hd⟩, wf, ⟨ok, h30, hrow, okR, canR, hcnt⟩, ⟨is, hP, hlk⟩, tab, rfl⟩, q⟩
    refine ⟨_, (pss_cons (ps_set (i := 2) sc_get_folder.nd rfl (Or.inl rfl) pe_dnewK)
    (pss_cons (ps_for PassesOwn.never rfl (pi_tup (pe_c (rows_of_ok T (by omega)) hr (by rfl) (pa_cons (pv 0) (pa_cons (pv 1) pa_nil)))) (pg_tup (n := 2) rfl (pgs_cons (pg_name (i := 3) sc_get_folder.nd rfl (Or.inl rfl)) (pgs_cons (pg_name (i := 4) sc_get_folder.nd rfl (Or.inl rfl)) pgs_nil)))
      (pss_one (ps_if (pt_cmpR op_eq (pe_slice sl_str (pe_m T.cl_Store (Store_get_ok T (by omega)) hr (pv 0) (pa_cons (pv 4) pa_nil)) po_none (po_some pe_int)) pe_str (nomark _)) (pss_one (ps_dput (hu_of hr) (pv 2) (pv 3) (pe_c (get_text_ok T (by omega)) hr (by rfl) (pa_cons (pv 0) (pa_cons (pv 4) pa_nil))) rfl)) (pss_one (ps_un (ps_for PassesOwn.never rfl (pi_items (pe_lkA (pe_c (ih _ (by omega)) hr (by rfl) (pa_cons (pv 0) (pa_cons (pv 4) pa_nil))))) (pg_tup (n := 2) rfl (pgs_cons (pg_name (i := 5) sc_get_folder.nd rfl (Or.inl rfl)) (pgs_cons (pg_name (i := 6) sc_get_folder.nd rfl (Or.inl rfl)) pgs_nil)))
          (pss_one (ps_dput (hu_of hr) (pv 2) (pe_op op_add_str (pe_op op_add_str (pv 3) pe_str) (pv 5)) (pv 6) rfl))))))))
    (pss_one (ps_ret (pe_c (check_folder_ok T (by omega)) hr (by rfl) (pa_cons (pv 2) pa_nil)))))), ?_⟩
    have hisl : is.length = (nms F).length := Paired.length hP
    have hzz : ∀ z ∈ (nms F).zip is, 47 ∉ TL.tl z.2 := fun z hz => by
      obtain ⟨j, j1, j2⟩ := zip_at hz
      obtain ⟨r, hr, hat⟩ := LiI.paired_get hP j2
      by_cases c : r.2 = true
      · rw [if_pos c] at hat
        obtain ⟨_, _, y⟩ := hat
        exact name_free wf y (by decide)
      · rw [if_neg c] at hat
        cases dep with
        | zero => exact hat.elim
        | succ dep => obtain ⟨_, _, y⟩ := hat; exact name_free wf y (by decide)
    have hrows : rowsL (mkS ((TL.tl (("t" : Str) ++ Txt.join "/" (((nms F).zip is).map fun z => rowStr z.1.1 z.2))).drop 1)) = ((nms F).zip is).map fun z => (z.1.1, z.2) := by
      rw [drop1 _ _ (by decide)]
      have z := rows_join (zs := ((nms F).zip is).map fun z => (z.1.1, z.2)) (fun y hy => by
        obtain ⟨z, hz, rfl⟩ := List.mem_map.mp hy
        obtain ⟨_, r2, r3, r4, _⟩ := hrow z.1 (zip_in hz)
        exact ⟨r2, r3, r4, hzz z hz⟩)
      rw [List.map_map] at z
      exact z
    refine q_asgN en_dnew fun G H1 hG e1 h1 => ?_
    refine q_forTX (K := K) (R := fun xs H' => ∃ ts : List Addr, xs = ts.map V.ref ∧ Paired (fun q (r : Str × Str) => SqT K H' q [.str r.1, .str r.2]) ts (((nms F).zip is).map fun z => (z.1.1, z.2))) ?hN ?hB
    case hN =>
      intro H2 e2 Q2 q2
      refine cl_use (vs := [.ref st, .str nm]) (by walk_at "ev") fun H3 e3 => ⟨st, d, S, nm, rfl, Sto.ex ((e1.trans e2).trans e3) ⟨⟨dx, hs⟩, hd⟩, wf, fun x hx => ?_, fun hx => by rw [hlk] at hx; cases hx⟩
      rw [hlk] at hx
      cases hx
      refine ⟨take1 _ _ (by decide), fun p ts H4 hp e4 h4 hP4 => q2 _ H4 (e3.trans e4) ⟨p, _, rfl, st_of h4, ts, rfl, ?_⟩⟩
      rw [hrows] at hP4
      exact hP4
    case hB =>
      rintro p xs H2 e2 hp ⟨ts, rfl, hPt⟩
      have e02 := e1.trans e2
      have hG2 : H2 G = some (.dK []) := e2 _ _ h1
      have htl : ts.length = (nms F).length := by rw [Paired.length hPt, List.length_map, List.length_zip]; omega
      refine ⟨fun i σ' H' => Ex H H' ∧ (∀ q xs, SqT K H2 q xs → SqT K H' q xs) ∧ H' G = some (.dK (tD (mrg [] (((nms F).take i).flatMap (backOf F))))) ∧ ∃ u3 u4 u5 u6, σ' = [some (.ref st), some (.str nm), some (.ref G), u3, u4, u5, u6],
        ⟨e02, fun _ _ h => h, hG2, _, _, _, _, rfl⟩, ?_, ?_, ?_⟩
      · rintro i σ' H' _ ⟨_, hT, _⟩
        exact hT _ _ hp
      · rintro i x σ' H' hi ⟨e, hT, hG', u3, u4, u5, u6, rfl⟩
        obtain ⟨a, rw', rfl, hr, hq⟩ := ref_at hPt hi
        rw [List.getElem?_map] at hr
        cases ez : ((nms F).zip is)[i]? with
        | none => rw [ez] at hr; cases hr
        | some z =>
        rw [ez] at hr
        cases hr
        rw [List.getElem?_zip_eq_some] at ez
        obtain ⟨j1, j2⟩ := ez
        obtain ⟨r, hr, hat⟩ := LiI.paired_get hP j2
        rw [j1] at hr
        cases hr
        obtain ⟨hlt, hre⟩ := List.getElem?_eq_some_iff.mp j1
        have hrm : z.1 ∈ nms F := List.mem_of_getElem? j1
        obtain ⟨r1, r2, r3, r4, r5, r6⟩ := hrow z.1 hrm
        have hstep : mrg [] (((nms F).take (i + 1)).flatMap (backOf F)) = mrg (mrg [] (((nms F).take i).flatMap (backOf F))) (backOf F z.1) := by
          rw [List.take_succ_eq_append_getElem hlt, List.flatMap_append, mrg_append, hre]
          congr 1
          simp
        have hcap : (((nms F).take i).flatMap (backOf F)).length + (backOf F z.1).length ≤ 100 := by
          have e : (nms F).flatMap (backOf F) = ((nms F).take i).flatMap (backOf F) ++ (backOf F z.1 ++ ((nms F).drop (i + 1)).flatMap (backOf F)) := by
            conv => lhs; rw [show nms F = (nms F).take i ++ (nms F)[i] :: (nms F).drop (i + 1) by rw [List.getElem_cons_drop, List.take_append_drop]]
            rw [List.flatMap_append, List.flatMap_cons, hre]
          rw [e, List.length_append, List.length_append] at hcnt
          omega
        have hm0 := len_mrg (((nms F).take i).flatMap (backOf F)) []
        rw [List.length_nil] at hm0
        generalize hacc : mrg [] (((nms F).take i).flatMap (backOf F)) = acc at hstep hG' hm0
        refine g_tup2 (hT _ _ hq) ?_
        by_cases c : z.1.2 = true
        · rw [if_pos c] at hat
          obtain ⟨t, ht, htl'⟩ := r5 c
          rw [ht] at hat
          have hat' : TxtAt S t z.2 := hat
          obtain ⟨ns, _, hl⟩ := id hat'
          have hzl : (("l" : Str) ++ Txt.join " " ns).length ≤ sizeLine := sz_of (Nat.le_trans (wf.sz _ (lk_mem hl)) (by decide))
          have e3 : V.str (cutS (("l" : Str) ++ Txt.join " " ns) none (some 1)) = V.str "l" := by
            congr 1
            refine TL.ext_tl ?_
            rw [show (1 : Int) = ((1 : Nat) : Int) from rfl, cutS_to, take1 _ _ (by decide)]
          refine s_if (b := true) (et_is (et_test (ev_op (ev_is (ev_slS (ev_get (ev_var rfl) (ev_var rfl) (e _ _ hs) (e _ _ hd) wf hl) eo_none (eo_some ev_c) hzl) e3) ev_c (rv_eq rfl))) (by simp)) (fun _ H4 e4 => ?_) (by simp)
          refine s_dput (k := .inr z.1.1) (v := .str t) (ev_cl mono_gt (by walk_at "ev") ⟨st, d, S, z.2, t, rfl, Sto.ex (e.trans e4) ⟨⟨dx, hs⟩, hd⟩, wf, hat', htl', rfl⟩) (by walk_at "ev") (by walk_at "ev") (e4 _ _ hG') (by rw [en_len]; exact sz_lt (by omega)) fun H5 e5 => ?_
          refine ⟨Ex.mut ((e.trans e4).trans e5) hG, fun q xs hq => exb_t (exb_upd (exb_of (Ex.refl _))) (rd_of (e5 _ _ (e4 _ _ hG'))) (ex_t (e4.trans e5) (hT q xs hq)), ?_, _, _, _, _, rfl⟩
          rw [upd_same, hstep]
          have eb : backOf F z.1 = [(z.1.1, t)] := by unfold backOf; rw [if_pos c, ht]; rfl
          rw [eb]
          exact congrArg (fun y => some (HO.dK y)) (en_put inr_inj' acc z.1.1 t)
        · have c' : z.1.2 = false := by simpa using c
          rw [if_neg c] at hat
          have hat' : FolAt dep S (partT F z.1.1) z.2 := hat
          have hpc : ∃ y, lk S z.2 = some (("t" : Str) ++ y) := by
            cases dep with
            | zero => exact hat'.elim
            | succ dep => obtain ⟨_, _, y⟩ := hat'; exact ⟨_, y⟩
          obtain ⟨y, hl⟩ := hpc
          have hzl : (("t" : Str) ++ y).length ≤ sizeLine := sz_of (Nat.le_trans (wf.sz _ (lk_mem hl)) (by decide))
          have e3 : V.str (cutS (("t" : Str) ++ y) none (some 1)) = V.str "t" := by
            congr 1
            refine TL.ext_tl ?_
            rw [show (1 : Int) = ((1 : Nat) : Int) from rfl, cutS_to, take1 _ _ (by decide)]
          refine s_if (b := false) (et_is (et_test (ev_op (ev_is (ev_slS (ev_get (ev_var rfl) (ev_var rfl) (e _ _ hs) (e _ _ hd) wf hl) eo_none (eo_some ev_c) hzl) e3) ev_c (rv_eq rfl))) (by decide)) (by simp) (fun _ H4 e4 => ?_)
          have eb : backOf F z.1 = (can (partT F z.1.1)).map fun y => (z.1.1 ++ "/" ++ y.1, y.2) := by unfold backOf; rw [if_neg c]
          rw [eb] at hstep hcap
          rw [List.length_map] at hcap
          refine s_forI (N := NF _) (C := fun p => H4 p = none) (kvs := tD (can (partT F z.1.1))) (fun Q' q' => en_cl mono_gf (by walk_at "ev") ⟨st, d, S, partT F z.1.1, z.2, rfl, Sto.ex (e.trans e4) ⟨⟨dx, hs⟩, hd⟩, wf, r6 c', hat', tab.ex (e.trans e4), rfl⟩ _ (Ex.refl _) _ fun p H5 hn e5 h5 => q' p H5 hn e5 (rd_of h5)) fun d' H5 B od hn e5 l => ?_
          have hGd : G ≠ d' := fun y => by rw [← y, e4 _ _ hG'] at hn; cases hn
          have hn' : H d' = none := fresh_back (e.trans e4) hn
          have hfo := r6 c'
          have hsz : ∀ x ∈ can (partT F z.1.1), x.1.length ≤ 1000 := fun x hx => by
            have hx2 : x.1 ∈ ks (partT F z.1.1) := by
              have y : x.1 ∈ ks (can (partT F z.1.1)) := List.mem_map.mpr ⟨x, hx, rfl⟩
              rw [ks_can] at y
              exact mem_sortS.mp y
            cases dep with
            | zero => exact hfo.elim
            | succ dep => exact (hfo.1.path _ hx2).1.1
          refine ⟨fun j σ' H' => Ex H H' ∧ (∀ q xs, SqT K H2 q xs → SqT K H' q xs) ∧ H' d' = some (.frz od (.dK (tD (can (partT F z.1.1))))) ∧ H' G = some (.dK (tD (mrg acc (((can (partT F z.1.1)).take j).map fun y => (z.1.1 ++ "/" ++ y.1, y.2))))) ∧ ∃ u5 u6, σ' = [some (.ref st), some (.str nm), some (.ref G), some (.str z.1.1), some (.str z.2), u5, u6],
            ⟨l.new ((e.trans e4).trans e5) hn', fun q xs h => l.tup (ex_t (e4.trans e5) (hT q xs h)), l.there, by rw [l.off G hGd]; exact e5 _ _ (e4 _ _ hG'), _, _, rfl⟩, fun j σ' H' h => h.2.2.1, ?_, ?_⟩
          · rintro j kk vv σ' H' TT hj ⟨e7, hT7, hd7, hG7, u5, u6, rfl⟩ hTn
            obtain ⟨r2', hr2, hr2i, rfl, rfl⟩ := en_at hj
            have hGT : G ≠ TT := fun y => by rw [← y, hG7] at hTn; cases hTn
            have hdT : d' ≠ TT := fun y => by rw [← y, hd7] at hTn; cases hTn
            have hs1 : ("/" : Str).length = 1 := by decide
            have hz1 : z.1.1.length + ("/" : Str).length ≤ sizeLine := sz_of (by omega)
            have hz2 : (z.1.1 ++ ("/" : Str)).length + r2'.1.length ≤ sizeLine := sz_of (by have := hsz _ hr2; rw [len_app]; omega)
            have hm7 := len_mrg (((can (partT F z.1.1)).take j).map fun y => (z.1.1 ++ "/" ++ y.1, y.2)) acc
            rw [List.length_map, List.length_take] at hm7
            refine g_tup2 (st_of upd_same) ?_
            refine s_dput (k := .inr (z.1.1 ++ "/" ++ r2'.1)) (v := .str r2'.2) (ev_var rfl) (ev_var rfl) (ev_op (ev_op (ev_var rfl) ev_c (rv_addS hz1)) (ev_var rfl) (rv_addS hz2)) (by rw [upd_ne hGT]; exact hG7) (by rw [en_len]; exact sz_lt (by omega)) fun H8 e8 => ?_
            refine ⟨Ex.mut ((e7.trans (Ex.new hTn)).trans e8) hG, fun q xs hq => exb_t (exb_upd (exb_of (Ex.refl _))) (rd_of (e8 _ _ (by rw [upd_ne hGT]; exact hG7))) (ex_t ((Ex.new hTn).trans e8) (hT7 q xs hq)), by rw [upd_ne (Ne.symm hGd)]; exact e8 _ _ (by rw [upd_ne hdT]; exact hd7), ?_, _, _, rfl⟩
            rw [upd_same, take_map_succ _ hr2i, mrg_snoc]
            exact congrArg (fun y => some (HO.dK y)) (en_put inr_inj' _ (z.1.1 ++ "/" ++ r2'.1) r2'.2)
          · rintro σ' H' ⟨e7, hT7, hd7, hG7, u5, u6, rfl⟩ Hf g1 g2
            have e0 : (can (partT F z.1.1)).take (tD (can (partT F z.1.1))).length = can (partT F z.1.1) := List.take_of_length_le (by rw [en_len]; exact Nat.le_refl _)
            rw [e0, ← hstep] at hG7
            exact ⟨ex_un e7 hn' g1, fun q xs hq => vm_t (vm_un hd7 l.rd g1 g2) (hT7 q xs hq), by rw [g1 G hGd]; exact hG7, _, _, _, _, rfl⟩
      · rintro σ' H' ⟨e, hT, hG', u3, u4, u5, u6, rfl⟩
        rw [List.length_map, htl, List.take_length] at hG'
        refine s_retN (en_cl mono_cf (by walk_at "ev") ⟨G, reb F, rfl, rd_of hG', okR, tab.ex e, rfl⟩) fun r H3 hr3 e3 h3 => q r H3 (fresh_back e hr3) (e.trans e3) (by rw [h3, canR])
end
end Kw


set_option Elab.async false
set_option linter.all false
set_option maxRecDepth 100000
set_option maxHeartbeats 4000000
/-! Law1: the law's dice, rolls, paths. -/
namespace Kw
open PySem PySem.Spec PyProof.Rows L2 Evl
local macro_rules
  | `(tactic| walk_at "hp") => `(tactic| first
      | exact prp (by assumption)
      | exact rfl
      | exact upd_same
      | ((with_reducible apply sq_of); first | assumption | exact upd_same)
      | ((with_reducible apply st_of); first | assumption | exact upd_same)
      | ((with_reducible apply rd_of); first | assumption | exact upd_same)
      | ((with_reducible apply ex_l); assumption; walk_at "hp")
      | ((with_reducible apply ex_t); assumption; walk_at "hp")
      | ((with_reducible apply ex_rd); assumption; walk_at "hp")
      | ((with_reducible apply ex_at); assumption; walk_at "hp")
      | ((with_reducible apply Or.inl); walk_at "hp")
      | ((with_reducible apply Or.inr); walk_at "hp")
      | ((with_reducible apply LenD.lst); walk_at "hp")
      | ((with_reducible apply LenD.tup); walk_at "hp")
      | ((with_reducible apply LenD.dic); walk_at "hp")
      | ((with_reducible apply LenD.str); walk_at "hp")
      | ((with_reducible apply mulR); decide)
      | ((with_reducible apply mulL); decide)
      | decide
      | omega)
local macro_rules
  | `(tactic| walk_at "ev") => `(tactic| ((fail_if_success (with_reducible apply ev_bad)); (fail_if_success (with_reducible apply et_bad)); (fail_if_success (with_reducible apply ea_bad)); (fail_if_success (with_reducible apply en_bad)); first
      | ((with_reducible apply ev_var); exact rfl)
      | (with_reducible exact ev_c)
      | (with_reducible exact ea_nil)
      | (with_reducible exact eo_none)
      | ((with_reducible apply eo_some) <;> try walk_at "ev")
      | ((with_reducible apply ea_cons) <;> try walk_at "ev")
      | ((with_reducible apply ev_inTup) <;> try walk_at "ev")
      | ((with_reducible apply ev_niTup) <;> try walk_at "ev")
      | ((with_reducible apply ev_ixP) <;> try walk_at "ev")
      | (with_reducible exact rv_isN)
      | (with_reducible exact rv_notN)
      | ((with_reducible apply ev_op) <;> try walk_at "ev")
      | (with_reducible exact rv_I0)
      | ((with_reducible apply rv_I) <;> try walk_at "hp")
      | ((with_reducible apply rv_eq); exact rfl)
      | ((with_reducible apply rv_ne); exact rfl)
      | ((with_reducible apply rv_addS) <;> try walk_at "hp")
      | ((with_reducible apply rv_ixL); walk_at "hp"; walk_at "hp")
      | ((with_reducible apply rv_ixT); walk_at "hp"; walk_at "hp")
      | ((with_reducible apply ev_cb) <;> try walk_at "ev")
      | ((with_reducible apply rc_len); walk_at "hp")
      | (with_reducible exact rc_ord)
      | ((with_reducible apply rc_str) <;> try walk_at "hp")
      | (with_reducible exact rc_int)
      | (with_reducible exact rc_intB)
      | (with_reducible exact rc_abs)
      | (with_reducible exact rc_max2)
      | (with_reducible exact rc_min2)
      | ((with_reducible apply ev_joinN) <;> try walk_at "ev")
      | ((with_reducible apply ev_m1) <;> try walk_at "ev")
      | ((with_reducible apply rm_strip) <;> try walk_at "hp")
      | (with_reducible exact rm_starts)
      | ((with_reducible apply rm_join) <;> try walk_at "hp")
      | ((with_reducible apply ev_slS) <;> try walk_at "ev")
      | ((with_reducible apply ev_dget) <;> try walk_at "ev")
      | ((with_reducible apply ev_din) <;> try walk_at "ev")
      | ((with_reducible apply ev_dnotin) <;> try walk_at "ev")
      | ((with_reducible apply ev_fld) <;> try walk_at "ev")
      | ((with_reducible apply et_test) <;> try walk_at "ev")
      | ((with_reducible apply et_B) <;> try walk_at "ev")
      | ((with_reducible apply et_and) <;> try walk_at "ev")
      | ((with_reducible apply et_or) <;> try walk_at "ev")
      | ((with_reducible apply et_not) <;> try walk_at "ev")
      | (with_reducible exact en_dnew)
      | (with_reducible exact et_yes)
      | ((with_reducible apply ex_tup) <;> try walk_at "ev")
      | ((with_reducible apply en_slL) <;> try walk_at "ev")
      | ((with_reducible apply en_split) <;> try walk_at "ev")
      | ((with_reducible apply en_part) <;> try walk_at "ev")
      | walk_at "hp"
      | ((with_reducible refine fun hb => ?_); try walk_at "ev")))
local macro_rules
  | `(tactic| walk_at "lcf") => `(tactic| first
      | (intro _ _ _ _ _; exact rfl)
      | (intro _ _ _ _ _; dsimp only [Cx.blk]; done)
      | (intro _ _ _ _ _; dsimp only [Cx.blk]; exact rfl))
section
variable {σ : L2.St} {H : Hp} {ta tb tc : TE} {x y z : V}
theorem ev_chain2 {r1 r2 : R2} {b1 b2 : Bool} (ha : Ev ta σ H x) (hb : Ev tb σ H y) (h1 : RV r1 x y H (.bl b1)) (hc : Ev tc σ H z) (h2 : RV r2 y z H (.bl b2)) : Ev (tChain r1 r2 ta tb tc) σ H (.bl (b1 && b2)) := fun G0 e Q q =>
  ha G0 e _ fun G1 e1 => hb G1 (e.trans e1) _ fun G2 e2 => h1 G2 ((e.trans e1).trans e2) _ fun G3 e3 => ⟨b1, rfl, by
    have e03 := ((e.trans e1).trans e2).trans e3
    have f03 := (e1.trans e2).trans e3
    cases b1 with
    | false => exact q G3 f03
    | true =>
      show tc σ G3 _
      exact hc G3 e03 _ fun G4 e4 => h2 G4 (e03.trans e4) _ fun G5 e5 => q G5 ((f03.trans e4).trans e5)⟩
end
section
variable {P : Program} {w : World} {K : PySem.W.Frag} {mg : Str → Option Value} {base : Heap} {k : Nat}
/-- three ints at a: the dice -/
def Dice (a : Addr) (H : Hp) : Prop := ∃ x y z : Int, H a = some (.lst [.int x, .int y, .int z])
theorem Dice.ex {a : Addr} {H H' : Hp} (e : Ex H H') (h : Dice a H) : Dice a H' := let ⟨x, y, z, g⟩ := h; ⟨x, y, z, e _ _ g⟩
def spRoll : Sp := fun vs H Q _ => ∃ (a : Addr) (n : Int), vs = [.ref a, .int n] ∧ Dice a H ∧ 0 < n ∧ n < 1000000000 ∧ ∀ r H', 0 ≤ r → r < n → Exb a H H' → Dice a H' → Q (.int r) H'
theorem law_roll_ok (T : Md K mg base) (hk : 1 ≤ k) : CallOk P w K mg base k "_law_roll" ["dice", "many"] spRoll := by
  obtain ⟨k, rfl⟩ : ∃ j, k = j + 1 := ⟨k - 1, by omega⟩
  refine T.d_law_roll.ok (N := ["dice", "many", "found"]) sc_law_roll (by rintro vs H Q E ⟨a, n, rfl, -⟩; rfl) ?_
  rintro f cdv A outer s H vs Q E hr ⟨a, n, rfl, ⟨x, y, z, ha⟩, h0, hn, q⟩
  refine ⟨_, (pss_cons (ps_if (PW.pt (pw_or (pt_cmpR op_eq (pe_ix ix_list (pv 0) pe_int (fun _ _ => rfl)) pe_int (nomark _)) (pw_or1 (PW.pt (pw_and (pt_cmpR op_eq (pe_ix ix_list (pv 0) pe_int (fun _ _ => rfl)) pe_int (nomark _)) (pw_and1 (pt_cmpR op_gt (pe_ix ix_list (pv 0) pe_int (fun _ _ => rfl)) pe_int (nomark _)))))))) (pss_cons (ps_set (i := 2) sc_law_roll.nd rfl (Or.inl rfl) (pe_op op_mod (b_int T.b (pa_cons (pe_ix ix_list (pv 0) pe_int (fun _ _ => rfl)) pa_nil)) (pv 1)))
      (pss_cons (ps_asg (pe_op op_fdiv (pe_ix ix_list (pv 0) pe_int (fun _ _ => rfl)) (pv 1)) (pg_sub (pv 0) pe_int set_list))
      (pss_one (ps_ret (pv 2))))) pss_nil)
    (pss_cons (ps_asg pe_int (pg_sub (pv 0) pe_int set_list))
    (pss_cons (ps_asg (pe_op op_mod (b_int T.b (pa_cons (pe_op op_add (pe_op op_add (pe_op op_mul (pe_ix ix_list (pv 0) pe_int (fun _ _ => rfl)) pe_int) (pe_op op_mul (pe_ix ix_list (pv 0) pe_int (fun _ _ => rfl)) pe_int)) pe_int) pa_nil)) pe_int) (pg_sub (pv 0) pe_int set_list))
    (pss_cons (ps_asg (pe_op op_add (pe_ix ix_list (pv 0) pe_int (fun _ _ => rfl)) pe_int) (pg_sub (pv 0) pe_int set_list))
    (pss_one (ps_ret (pe_op op_mod (b_int T.b (pa_cons (pe_op op_add (pe_op op_fdiv (pe_ix ix_list (pv 0) pe_int (fun _ _ => rfl)) pe_int) (pe_ix ix_list (pv 0) pe_int (fun _ _ => rfl))) pa_nil)) (pv 1)))))))), ?_⟩
  have hdiv : CDiv x n := ⟨h0, by omega⟩
  refine q_when (b := decide (V.int z = V.int 2) || (decide (V.int z = V.int 1) && decide (0 < x))) (et_or (by walk_at "ev") fun _ => et_and (by walk_at "ev") fun _ => by walk_at "ev") (fun _ H1 e1 => ?_) fun _ H1 e1 => ?_
  · have ha1 := e1 _ _ ha
    refine q_asg (v := .int (x % n)) (by walk_at "ev") fun H2 e2 => ?_
    have ha2 := e2 _ _ ha1
    refine q_setL (j := 0) ha2 (v := .int (x / n)) (by walk_at "ev") (by walk_at "ev") (ev_is ev_c rfl) (by simp) fun H3 e3 => ?_
    refine s_ret (v := .int (x % n)) (by walk_at "ev") fun H4 e4 => q _ H4 (Int.emod_nonneg _ (by omega)) (Int.emod_lt_of_pos _ h0) ((exb_upd (exb_of ((e1.trans e2).trans e3))).trans (exb_of e4)) ⟨_, _, _, e4 _ _ upd_same⟩
  · have ha1 := e1 _ _ ha
    refine q_setL (j := 2) ha1 (v := .int 0) ev_c (by walk_at "ev") (ev_is ev_c rfl) (by simp) fun H2 e2 => ?_
    refine q_setL (j := 0) (xs := [.int x, .int y, .int 0]) upd_same (v := .int ((x * 48271 + y * 69621 + 11) % 2147483647)) (by walk_at "ev") (by walk_at "ev") (ev_is ev_c rfl) (by simp) fun H3 e3 => ?_
    generalize hx1 : (x * 48271 + y * 69621 + 11) % 2147483647 = x1
    refine q_setL (j := 1) (xs := [.int x1, .int y, .int 0]) upd_same (v := .int (y + 1)) (by walk_at "ev") (by walk_at "ev") (ev_is ev_c rfl) (by simp) fun H4 e4 => ?_
    have h4 : upd H4 a (.lst ([V.int x1, .int y, .int 0].set 1 (.int (y + 1)))) a = some (.lst [.int x1, .int (y + 1), .int 0]) := upd_same
    generalize hH5 : upd H4 a (.lst ([V.int x1, .int y, .int 0].set 1 (.int (y + 1)))) = H5 at h4 ⊢
    have ex5 : Exb a H H5 := by
      rw [← hH5]
      exact exb_upd ((exb_upd ((exb_upd ((exb_of (e1.trans e2)))).trans (exb_of e3))).trans (exb_of e4))
    have hd7 : CDiv x1 7 := ⟨by decide, by decide⟩
    refine s_ret (v := .int ((x1 / 7 + x1) % n)) (by walk_at "ev") fun H6 e6 => q _ H6 (Int.emod_nonneg _ (by omega)) (Int.emod_lt_of_pos _ h0) (ex5.trans (exb_of e6)) ⟨_, _, _, e6 _ _ h4⟩
def spDice : Sp := fun vs H Q _ => ∃ c : Int, vs = [.int c] ∧ ∀ p H', H p = none → Ex H H' → Dice p H' → Q (.ref p) H'
theorem law_dice_ok (T : Md K mg base) (hk : 1 ≤ k) : CallOk P w K mg base k "_law_dice" ["cell"] spDice := by
  obtain ⟨k, rfl⟩ : ∃ j, k = j + 1 := ⟨k - 1, by omega⟩
  refine T.d_law_dice.ok (N := ["cell"]) sc_law_dice (by rintro vs H Q E ⟨c, rfl, -⟩; rfl) ?_
  rintro f cdv A outer s H vs Q E hr ⟨c, rfl, q⟩
  refine ⟨_, (pss_cons (ps_if (pt_chain op_lt op_lt (pe_op op_sub pe_int pe_int) (pv 0) pe_int) (pss_one (ps_ret (pe_lst (pa_cons (b_abs T.b (pa_cons (pv 0) pa_nil)) (pa_cons pe_int (pa_cons pe_int pa_nil)))))) pss_nil)
    (pss_one (ps_ret (pe_lst (pa_cons (pv 0) (pa_cons (pe_op op_add pe_int (pe_op op_mod (b_int T.b (pa_cons (pv 0) pa_nil)) pe_int)) (pa_cons (b_int T.b (pa_cons (pe_cmpR op_ge (pv 0) (pe_op op_pow pe_int pe_int) (nomark _)) pa_nil)) pa_nil))))))), ?_⟩
  have hpw : CPow 10 18 := ⟨by decide, by decide, by decide⟩
  refine q_when (b := decide ((0 : Int) - 10 < c) && decide (c < 10)) (et_test (ev_chain2 (by walk_at "ev") (by walk_at "ev") rv_I0 (by walk_at "ev") rv_I0)) (fun _ H1 e1 => ?_) fun _ H1 e1 => ?_
  · exact s_retN (en_lst (by walk_at "ev") (by simp)) fun p H2 hp e2 h2 => q p H2 (fresh_back e1 hp) (e1.trans e2) ⟨_, _, _, h2⟩
  · exact s_retN (en_lst (by walk_at "ev") (by simp)) fun p H2 hp e2 h2 => q p H2 (fresh_back e1 hp) (e1.trans e2) ⟨_, _, _, h2⟩
def PATHS : List Str := ["a", "a.b", "a-b_c", "b/a", "b/b", "b/c/a", "b/c/d.e", "b/c/f/a", "b/c/f/b", "c9/x", "c9/y/z", "zz"]
def sPaths : List V → Hp → HO → Prop := fun vs _ o => vs = [] ∧ o = .lst [.str "a", .str "a.b", .str "a-b_c", .str "b/a", .str "b/b", .str "b/c/a", .str "b/c/d.e", .str "b/c/f/a", .str "b/c/f/b", .str "c9/x", .str "c9/y/z", .str "zz"]
theorem mono_paths : Mono sPaths := fun _ _ _ _ _ h => h
theorem law_paths_ok (T : Md K mg base) (hk : 1 ≤ k) : CallOk P w K mg base k "_law_paths" [] (spN sPaths) := by
  obtain ⟨k, rfl⟩ : ∃ j, k = j + 1 := ⟨k - 1, by omega⟩
  refine T.d_law_paths.ok (N := []) sc_law_paths (by rintro vs H Q E ⟨o, ⟨rfl, -⟩, -⟩; rfl) ?_
  rintro f cdv A outer s H vs Q E hr ⟨o, ⟨rfl, rfl⟩, q⟩
  refine ⟨_, (pss_one (ps_ret (pe_lst (pa_cons pe_str (pa_cons pe_str (pa_cons pe_str (pa_cons pe_str (pa_cons pe_str (pa_cons pe_str (pa_cons pe_str (pa_cons pe_str (pa_cons pe_str (pa_cons pe_str (pa_cons pe_str (pa_cons pe_str pa_nil))))))))))))))), ?_⟩
  exact s_retN (en_lst (by walk_at "ev") (by simp)) fun p H2 hp e2 h2 => q p H2 hp e2 h2
end
end Kw


set_option Elab.async false
set_option linter.all false
set_option maxRecDepth 100000
set_option maxHeartbeats 4000000
/-! Rul: the rule's __init__, parts. -/
namespace Kw
open PySem PySem.Spec PyProof.Rows L2 Evl
local macro_rules
  | `(tactic| walk_at "hp") => `(tactic| first
      | exact prp (by assumption)
      | exact rfl
      | exact upd_same
      | ((with_reducible apply sq_of); first | assumption | exact upd_same)
      | ((with_reducible apply st_of); first | assumption | exact upd_same)
      | ((with_reducible apply rd_of); first | assumption | exact upd_same)
      | ((with_reducible apply ex_l); assumption; walk_at "hp")
      | ((with_reducible apply ex_t); assumption; walk_at "hp")
      | ((with_reducible apply ex_rd); assumption; walk_at "hp")
      | ((with_reducible apply ex_at); assumption; walk_at "hp")
      | ((with_reducible apply Or.inl); walk_at "hp")
      | ((with_reducible apply Or.inr); walk_at "hp")
      | ((with_reducible apply LenD.lst); walk_at "hp")
      | ((with_reducible apply LenD.tup); walk_at "hp")
      | ((with_reducible apply LenD.dic); walk_at "hp")
      | ((with_reducible apply LenD.str); walk_at "hp")
      | ((with_reducible apply mulR); decide)
      | ((with_reducible apply mulL); decide)
      | decide
      | omega)
local macro_rules
  | `(tactic| walk_at "ev") => `(tactic| ((fail_if_success (with_reducible apply ev_bad)); (fail_if_success (with_reducible apply et_bad)); (fail_if_success (with_reducible apply ea_bad)); (fail_if_success (with_reducible apply en_bad)); first
      | ((with_reducible apply ev_var); exact rfl)
      | (with_reducible exact ev_c)
      | (with_reducible exact ea_nil)
      | (with_reducible exact eo_none)
      | ((with_reducible apply eo_some) <;> try walk_at "ev")
      | ((with_reducible apply ea_cons) <;> try walk_at "ev")
      | ((with_reducible apply ev_inTup) <;> try walk_at "ev")
      | ((with_reducible apply ev_niTup) <;> try walk_at "ev")
      | ((with_reducible apply ev_ixP) <;> try walk_at "ev")
      | (with_reducible exact rv_isN)
      | (with_reducible exact rv_notN)
      | ((with_reducible apply ev_op) <;> try walk_at "ev")
      | (with_reducible exact rv_I0)
      | ((with_reducible apply rv_I) <;> try walk_at "hp")
      | ((with_reducible apply rv_eq); exact rfl)
      | ((with_reducible apply rv_ne); exact rfl)
      | ((with_reducible apply rv_addS) <;> try walk_at "hp")
      | ((with_reducible apply rv_ixL); walk_at "hp"; walk_at "hp")
      | ((with_reducible apply rv_ixT); walk_at "hp"; walk_at "hp")
      | ((with_reducible apply ev_cb) <;> try walk_at "ev")
      | ((with_reducible apply rc_len); walk_at "hp")
      | (with_reducible exact rc_ord)
      | ((with_reducible apply rc_str) <;> try walk_at "hp")
      | (with_reducible exact rc_int)
      | (with_reducible exact rc_intB)
      | (with_reducible exact rc_abs)
      | (with_reducible exact rc_max2)
      | (with_reducible exact rc_min2)
      | ((with_reducible apply ev_joinN) <;> try walk_at "ev")
      | ((with_reducible apply ev_m1) <;> try walk_at "ev")
      | ((with_reducible apply rm_strip) <;> try walk_at "hp")
      | (with_reducible exact rm_starts)
      | ((with_reducible apply rm_join) <;> try walk_at "hp")
      | ((with_reducible apply ev_slS) <;> try walk_at "ev")
      | ((with_reducible apply ev_dget) <;> try walk_at "ev")
      | ((with_reducible apply ev_din) <;> try walk_at "ev")
      | ((with_reducible apply ev_dnotin) <;> try walk_at "ev")
      | ((with_reducible apply ev_fld) <;> try walk_at "ev")
      | ((with_reducible apply et_test) <;> try walk_at "ev")
      | ((with_reducible apply et_B) <;> try walk_at "ev")
      | ((with_reducible apply et_and) <;> try walk_at "ev")
      | ((with_reducible apply et_or) <;> try walk_at "ev")
      | ((with_reducible apply et_not) <;> try walk_at "ev")
      | (with_reducible exact en_dnew)
      | (with_reducible exact et_yes)
      | ((with_reducible apply ex_tup) <;> try walk_at "ev")
      | ((with_reducible apply en_slL) <;> try walk_at "ev")
      | ((with_reducible apply en_split) <;> try walk_at "ev")
      | ((with_reducible apply en_part) <;> try walk_at "ev")
      | walk_at "hp"
      | ((with_reducible refine fun hb => ?_); try walk_at "ev")))
local macro_rules
  | `(tactic| walk_at "lcf") => `(tactic| first
      | (intro _ _ _ _ _; exact rfl)
      | (intro _ _ _ _ _; dsimp only [Cx.blk]; done)
      | (intro _ _ _ _ _; dsimp only [Cx.blk]; exact rfl))
section
variable {σ : L2.St} {H : Hp} {t1 t2 t3 : TE} {D : Ends}
theorem s_retT3 {R1 R2 R3 : V → Hp → Prop} (h1 : EvX t1 σ H R1) (h2 : ∀ H1, Ex H H1 → EvX t2 σ H1 R2) (h3 : ∀ H1, Ex H H1 → EvX t3 σ H1 R3)
    (k : ∀ v1 H1, Ex H H1 → R1 v1 H1 → ∀ v2 H2, Ex H1 H2 → R2 v2 H2 → ∀ v3 H3, Ex H2 H3 → R3 v3 H3 → ∀ p, H3 p = none → D.rt (.ref p) (upd H3 p (.tup [v1, v2, v3]))) : tRet (tTup (tCons t1 (tCons t2 (tCons t3 tNil)))) D σ H :=
  h1.use fun v1 H1 e1 r1 => (h2 H1 e1).use fun v2 H2 e2 r2 => (h3 H2 (e1.trans e2)).use fun v3 H3 e3 r3 => ⟨by show 3 ≤ sizeLine; decide, fun p hp => k v1 H1 e1 r1 v2 H2 e2 r2 v3 H3 e3 r3 p hp⟩
end
section
variable {P : Program} {w : World} {K : PySem.W.Frag} {mg : Str → Option Value} {base : Heap} {k : Nat}
def ruleF (a b c d : Int) : List (Str × V) := [("newest", .int a), ("days", .int b), ("weeks", .int c), ("months", .int d)]
def spRuleInit (C : Addr) : Sp := fun vs H Q _ => ∃ (x dx : Addr) (a b c d : Int), vs = [.ref x, .int a, .int b, .int c, .int d] ∧ H x = some (.ins C dx []) ∧ 0 ≤ a ∧ 0 ≤ b ∧ 0 ≤ c ∧ 0 ≤ d ∧ ∀ H', Exb x H H' → H' x = some (.ins C dx (ruleF a b c d)) → Q .non H'
theorem Rule_init_ok (T : Md K mg base) (hk : 1 ≤ k) : MakeOk P w K mg base T.C_Rule k "Rule" ["self", "last", "days", "weeks", "months"] [] (spRuleInit T.C_Rule) := by
  obtain ⟨k, rfl⟩ : ∃ j, k = j + 1 := ⟨k - 1, by omega⟩
  refine T.k_Rule.ok (N := ["self", "last", "days", "weeks", "months"]) sc_Rule___init__ (by rintro vs H Q E ⟨x, dx, a, b, c, d, rfl, -⟩; rfl) ?_
  rintro f cdv A outer s H vs Q E hr ⟨x, dx, a, b, c, d, rfl, hx, ha, hb, hc0, hd, q⟩
  refine ⟨_, (pss_cons (ps_fld (pv 0) (pv 1) rfl)
    (pss_cons (ps_fld (pv 0) (pv 2) rfl)
    (pss_cons (ps_fld (pv 0) (pv 3) rfl)
    (pss_cons (ps_fld (pv 0) (pv 4) rfl)
    (pss_one (ps_if (pt_cmpR op_lt (b_min4 T.b (pa_cons (pv 1) (pa_cons (pv 2) (pa_cons (pv 3) (pa_cons (pv 4) pa_nil))))) pe_int (nomark _)) (pss_one ps_never) pss_nil)))))), ?_⟩
  have hc := T.cl_Rule
  refine s_fld (D := { nx := _, rt := _ }) (v := .int a) (ev_var rfl) (ev_var rfl) hx hc T.na_Rule_newest (by decide) fun H1 e1 => ?_
  refine s_fld (D := { nx := _, rt := _ }) (v := .int b) (fs := [("newest", .int a)]) (ev_var rfl) (ev_var rfl) upd_same hc T.na_Rule_days (by simp) fun H2 e2 => ?_
  refine s_fld (D := { nx := _, rt := _ }) (v := .int c) (fs := [("newest", .int a), ("days", .int b)]) (ev_var rfl) (ev_var rfl) upd_same hc T.na_Rule_weeks (by simp) fun H3 e3 => ?_
  refine s_fld (D := { nx := _, rt := _ }) (v := .int d) (fs := [("newest", .int a), ("days", .int b), ("weeks", .int c)]) (ev_var rfl) (ev_var rfl) upd_same hc T.na_Rule_months (by simp) fun H4 e4 => ?_
  dsimp only
  refine s_when (b := false) ?_ (by simp) fun _ H5 e5 => ?_
  · intro G0 g0 Q0 q0
    refine ⟨_, rfl, _, rfl, _, rfl, _, rfl, a, b, c, d, rfl, fun m hm => ?_⟩
    have hm0 : 0 ≤ m := by
      rcases List.mem_cons.mp hm with rfl | hm
      · exact ha
      rcases List.mem_cons.mp hm with rfl | hm
      · exact hb
      rcases List.mem_cons.mp hm with rfl | hm
      · exact hc0
      · rw [List.mem_singleton.mp hm]; exact hd
    refine ⟨m, 0, rfl, rfl, _, rfl, ?_⟩
    rw [decide_eq_false (by omega)]
    exact q0 _ (Ex.refl _)
  · refine q H5 ?_ (e5 _ _ ?_)
    · exact (exb_upd ((exb_upd ((exb_upd ((exb_upd (exb_of e1)).trans (exb_of e2))).trans (exb_of e3))).trans (exb_of e4))).trans (exb_of e5)
    · exact upd_same
def spParts (K : PySem.W.Frag) (C : Addr) : Sp := fun vs H Q _ => ∃ (x dx : Addr) (a b c d : Int), vs = [.ref x] ∧ H x = some (.ins C dx (ruleF a b c d)) ∧
  ∀ p ts H', H p = none → Ex H H' → H' p = some (.tup (ts.map V.ref)) → Paired (fun q (r : Int × Int) => SqT K H' q [.int r.1, .int r.2]) ts [(24, b), (168, c), (672, d)] → Q (.ref p) H'
theorem Rule_parts_ok (T : Md K mg base) (hk : 1 ≤ k) : MethOk P w K mg base T.C_Rule k "parts" ["self"] (spParts K T.C_Rule) := by
  obtain ⟨k, rfl⟩ : ∃ j, k = j + 1 := ⟨k - 1, by omega⟩
  refine T.md_Rule_parts.ok (N := ["self"]) sc_Rule_parts (by rintro vs H Q E ⟨x, dx, a, b, c, d, rfl, -⟩; rfl) ?_
  rintro f cdv A outer s H vs Q E hr ⟨x, dx, a, b, c, d, rfl, hx, q⟩
  refine ⟨_, (pss_one (ps_ret (pe_tup (pa_cons (pe_tup (pa_cons (pe_gv T.c_DAY) (pa_cons (pe_fld (pv 0) rfl) pa_nil))) (pa_cons (pe_tup (pa_cons (pe_gv T.c_WEEK) (pa_cons (pe_fld (pv 0) rfl) pa_nil))) (pa_cons (pe_tup (pa_cons (pe_gv T.c_MONTH) (pa_cons (pe_fld (pv 0) rfl) pa_nil))) pa_nil)))))), ?_⟩
  have hc := T.cl_Rule
  have hn1 := T.na_Rule_days
  have hn2 := T.na_Rule_weeks
  have hn3 := T.na_Rule_months
  have f1 : ∀ H1, Ex H H1 → EvX (tTup (tCons (tC (.int 24)) (tCons (tFld K (tVar 0) "days") tNil))) (L2.start ["self"] [V.ref x]) H1 (fun v H' => ∃ p, v = .ref p ∧ SqT K H' p [.int 24, .int b]) := fun H1 e => ex_tup (ea_cons ev_c (ea_cons (ev_fld (ev_var rfl) (e _ _ hx) hc hn1 rfl) ea_nil)) (by simp)
  have f2 : ∀ H1, Ex H H1 → EvX (tTup (tCons (tC (.int 168)) (tCons (tFld K (tVar 0) "weeks") tNil))) (L2.start ["self"] [V.ref x]) H1 (fun v H' => ∃ p, v = .ref p ∧ SqT K H' p [.int 168, .int c]) := fun H1 e => ex_tup (ea_cons ev_c (ea_cons (ev_fld (ev_var rfl) (e _ _ hx) hc hn2 rfl) ea_nil)) (by simp)
  have f3 : ∀ H1, Ex H H1 → EvX (tTup (tCons (tC (.int 672)) (tCons (tFld K (tVar 0) "months") tNil))) (L2.start ["self"] [V.ref x]) H1 (fun v H' => ∃ p, v = .ref p ∧ SqT K H' p [.int 672, .int d]) := fun H1 e => ex_tup (ea_cons ev_c (ea_cons (ev_fld (ev_var rfl) (e _ _ hx) hc hn3 rfl) ea_nil)) (by simp)
  refine s_retT3 (f1 H (Ex.refl H)) f2 f3 ?_
  rintro _ H1 e1 ⟨p1, rfl, g1⟩ _ H2 e2 ⟨p2, rfl, g2⟩ _ H3 e3 ⟨p3, rfl, g3⟩ p hp
  have e03 := (e1.trans e2).trans e3
  have en := Ex.new (o := .tup [V.ref p1, .ref p2, .ref p3]) hp
  exact q p [p1, p2, p3] _ (fresh_back e03 hp) (e03.trans en) upd_same (.cons (ex_t ((e2.trans e3).trans en) g1) (.cons (ex_t (e3.trans en) g2) (.cons (ex_t en g3) .nil)))
end
end Kw


set_option Elab.async false
set_option linter.all false
set_option maxRecDepth 100000
set_option maxHeartbeats 4000000
/-! Rul2: the rule's stays, goes. -/
namespace Kw
open PySem PySem.Spec PyProof.Rows L2 Evl
local macro_rules
  | `(tactic| walk_at "hp") => `(tactic| first
      | exact prp (by assumption)
      | exact rfl
      | exact upd_same
      | ((with_reducible apply sq_of); first | assumption | exact upd_same)
      | ((with_reducible apply st_of); first | assumption | exact upd_same)
      | ((with_reducible apply rd_of); first | assumption | exact upd_same)
      | ((with_reducible apply ex_l); assumption; walk_at "hp")
      | ((with_reducible apply ex_t); assumption; walk_at "hp")
      | ((with_reducible apply ex_rd); assumption; walk_at "hp")
      | ((with_reducible apply ex_at); assumption; walk_at "hp")
      | ((with_reducible apply Or.inl); walk_at "hp")
      | ((with_reducible apply Or.inr); walk_at "hp")
      | ((with_reducible apply LenD.lst); walk_at "hp")
      | ((with_reducible apply LenD.tup); walk_at "hp")
      | ((with_reducible apply LenD.dic); walk_at "hp")
      | ((with_reducible apply LenD.str); walk_at "hp")
      | ((with_reducible apply mulR); decide)
      | ((with_reducible apply mulL); decide)
      | decide
      | omega)
local macro_rules
  | `(tactic| walk_at "ev") => `(tactic| ((fail_if_success (with_reducible apply ev_bad)); (fail_if_success (with_reducible apply et_bad)); (fail_if_success (with_reducible apply ea_bad)); (fail_if_success (with_reducible apply en_bad)); first
      | ((with_reducible apply ev_var); exact rfl)
      | (with_reducible exact ev_c)
      | (with_reducible exact ea_nil)
      | (with_reducible exact eo_none)
      | ((with_reducible apply eo_some) <;> try walk_at "ev")
      | ((with_reducible apply ea_cons) <;> try walk_at "ev")
      | ((with_reducible apply ev_inTup) <;> try walk_at "ev")
      | ((with_reducible apply ev_niTup) <;> try walk_at "ev")
      | ((with_reducible apply ev_ixP) <;> try walk_at "ev")
      | (with_reducible exact rv_isN)
      | (with_reducible exact rv_notN)
      | ((with_reducible apply ev_op) <;> try walk_at "ev")
      | (with_reducible exact rv_I0)
      | ((with_reducible apply rv_I) <;> try walk_at "hp")
      | ((with_reducible apply rv_eq); exact rfl)
      | ((with_reducible apply rv_ne); exact rfl)
      | ((with_reducible apply rv_addS) <;> try walk_at "hp")
      | ((with_reducible apply rv_ixL); walk_at "hp"; walk_at "hp")
      | ((with_reducible apply rv_ixT); walk_at "hp"; walk_at "hp")
      | ((with_reducible apply ev_cb) <;> try walk_at "ev")
      | ((with_reducible apply rc_len); walk_at "hp")
      | (with_reducible exact rc_ord)
      | ((with_reducible apply rc_str) <;> try walk_at "hp")
      | (with_reducible exact rc_int)
      | (with_reducible exact rc_intB)
      | (with_reducible exact rc_abs)
      | (with_reducible exact rc_max2)
      | (with_reducible exact rc_min2)
      | ((with_reducible apply ev_joinN) <;> try walk_at "ev")
      | ((with_reducible apply ev_m1) <;> try walk_at "ev")
      | ((with_reducible apply rm_strip) <;> try walk_at "hp")
      | (with_reducible exact rm_starts)
      | ((with_reducible apply rm_join) <;> try walk_at "hp")
      | ((with_reducible apply ev_slS) <;> try walk_at "ev")
      | ((with_reducible apply ev_dget) <;> try walk_at "ev")
      | ((with_reducible apply ev_din) <;> try walk_at "ev")
      | ((with_reducible apply ev_dnotin) <;> try walk_at "ev")
      | ((with_reducible apply ev_fld) <;> try walk_at "ev")
      | ((with_reducible apply et_test) <;> try walk_at "ev")
      | ((with_reducible apply et_B) <;> try walk_at "ev")
      | ((with_reducible apply et_and) <;> try walk_at "ev")
      | ((with_reducible apply et_or) <;> try walk_at "ev")
      | ((with_reducible apply et_not) <;> try walk_at "ev")
      | (with_reducible exact en_dnew)
      | (with_reducible exact et_yes)
      | ((with_reducible apply ex_tup) <;> try walk_at "ev")
      | ((with_reducible apply en_slL) <;> try walk_at "ev")
      | ((with_reducible apply en_split) <;> try walk_at "ev")
      | ((with_reducible apply en_part) <;> try walk_at "ev")
      | walk_at "hp"
      | ((with_reducible refine fun hb => ?_); try walk_at "ev")))
local macro_rules
  | `(tactic| walk_at "lcf") => `(tactic| first
      | (intro _ _ _ _ _; exact rfl)
      | (intro _ _ _ _ _; dsimp only [Cx.blk]; done)
      | (intro _ _ _ _ _; dsimp only [Cx.blk]; exact rfl))
abbrev tI (t : List (Int × Int)) : List (Key × V) := en Sum.inl V.int t
def ones (ts : List Int) : List (Int × Int) := ts.map fun t => (t, 1)
def spansD (sz : Int) (ts : List Int) : List (Int × Int) := mrg [] (ts.map fun t => (t / sz, t))
def picks (cnt sz : Int) (ts : List Int) : List Int := ((sortI (ks (spansD sz ts))).drop ((spansD sz ts).length - cnt.toNat)).map fun s => (lk (spansD sz ts) s).getD 0
def stayD (a b c d : Int) (ts : List Int) : List (Int × Int) := mrg [] (ones (ts.drop (ts.length - a.toNat) ++ picks b 24 ts ++ picks c 168 ts ++ picks d 672 ts))
theorem spansD_len (sz : Int) (ts : List Int) : (spansD sz ts).length ≤ ts.length := by
  have hm := len_mrg (ts.map fun t => (t / sz, t)) []
  rw [List.length_map, List.length_nil] at hm
  unfold spansD
  omega
theorem picks_len (c sz : Int) (ts : List Int) : (picks c sz ts).length ≤ ts.length := by
  unfold picks
  rw [List.length_map, List.length_drop, (sortI_perm _).length_eq]
  have h := spansD_len sz ts
  have e : (ks (spansD sz ts)).length = (spansD sz ts).length := by simp [ks]
  omega
theorem ks_ones (ts : List Int) : ks (ones ts) = ts := by unfold ks ones; rw [List.map_map]; exact List.map_id _
theorem ones_app (a b : List Int) : ones (a ++ b) = ones a ++ ones b := by simp [ones]
theorem mrg_ones {ts : List Int} (n : ts.Nodup) : mrg [] (ones ts) = ones ts := mrg_nd (by rw [ks_ones]; exact n)
section
variable {K : PySem.W.Frag} {σ : L2.St} {H : Hp} {te tl : TE} {vs : List Nat} {j : Nat}
theorem en_srtDIN {kvs : List (Key × V)} {ns : List Int} (h : EvN te σ H (.dK kvs)) (hk : kvs.map (·.1) = ns.map Sum.inl) : EvN (tCB (rSrtD K) (tCons te tNil)) σ H (.lst ((sortI ns).map V.int)) := by
  rw [← srt_ints]
  intro H1 e Q q
  refine h H1 e _ fun p H2 _ e2 hp => ⟨p, kvs, ns.map iVD, rfl, rd_of hp, ?_, sortIn_ints ns, fun l hl => q l _ (fresh_back e2 hl) (e2.trans (Ex.new hl)) upd_same⟩
  have e := congrArg (List.map kV) hk
  rw [List.map_map, List.map_map] at e
  rw [ints_map]; exact e
/-- dict([(t, 1) for t in ts]) -/
theorem en_ones {ts : List Int} (h : EvN tl σ H (.lst (ts.map V.int))) (hz : ts.length ≤ 90000) (hw : ∀ x, wipe ((wipe σ vs).set j (some x)) vs = wipe σ vs) (hj : ∀ x, ((wipe σ vs).set j (some x))[j]? = some (some x)) :
    EvN (tCB (rDictP K) (tCons (tLc (iList K tl) (gName j) tYes (tTup (tCons (tVar j) (tCons (tC (.int 1)) tNil))) vs) tNil)) σ H (.dK (tI (mrg [] (ones ts)))) := by
  refine en_is (en_dictP (α := Int) (b := fun _ => true) (kv := fun t => (Sum.inl t, V.int 1)) (lc_N ts V.int (fun _ => true) _ h hz hw m_tup (fun _ _ _ _ => et_yes) fun a H1 _ _ _ => ex_tup (ea_cons (ev_var (hj _)) (ea_cons ev_c ea_nil)) (by simp))) ?_
  rw [filter_true]
  have z := en_merge0 (ka := Sum.inl) (vb := V.int) inl_inj' (ones ts)
  refine congrArg HO.dK (Eq.trans ?_ z)
  unfold ones en
  rw [List.map_map]; rfl
/-- the same over a list that stands -/
theorem en_onesL {ts : List Int} {p : Addr} (h : Ev tl σ H (.ref p)) (hp : SqL K H p (ts.map V.int)) (hz : ts.length ≤ 90000) (hw : ∀ x, wipe ((wipe σ vs).set j (some x)) vs = wipe σ vs) (hj : ∀ x, ((wipe σ vs).set j (some x))[j]? = some (some x)) :
    EvN (tCB (rDictP K) (tCons (tLc (iList K tl) (gName j) tYes (tTup (tCons (tVar j) (tCons (tC (.int 1)) tNil))) vs) tNil)) σ H (.dK (tI (mrg [] (ones ts)))) := by
  refine en_is (en_dictP (α := Int) (b := fun _ => true) (kv := fun t => (Sum.inl t, V.int 1)) (lc_L ts V.int (fun _ => true) _ h hp hz hw m_tup (fun _ _ _ _ => et_yes) fun a H1 _ _ _ => ex_tup (ea_cons (ev_var (hj _)) (ea_cons ev_c ea_nil)) (by simp))) ?_
  rw [filter_true]
  have z := en_merge0 (ka := Sum.inl) (vb := V.int) inl_inj' (ones ts)
  refine congrArg HO.dK (Eq.trans ?_ z)
  unfold ones en
  rw [List.map_map]; rfl
end
theorem cut_last {ts : List Int} (a : Int) (h0 : 0 ≤ a) : cutV (ts.map V.int) (some ((ts.length : Int) - if (ts.length : Int) < a then (ts.length : Int) else a)) none = (ts.drop (ts.length - a.toNat)).map V.int := by
  have e : (ts.length : Int) - (if (ts.length : Int) < a then (ts.length : Int) else a) = ((ts.length - a.toNat : Nat) : Int) := by split <;> omega
  rw [e, cutV_from, ← List.map_drop]
section
variable {P : Program} {w : World} {K : PySem.W.Frag} {mg : Str → Option Value} {base : Heap} {k : Nat}
def sStays (K : PySem.W.Frag) (C : Addr) : List V → Hp → HO → Prop := fun vs H o => ∃ (x dx l : Addr) (a b c d : Int) (ts : List Int), vs = [.ref x, .ref l] ∧ H x = some (.ins C dx (ruleF a b c d)) ∧ SqL K H l (ts.map V.int) ∧ ts.Nodup ∧ ts.length ≤ 100 ∧ 0 ≤ a ∧ 0 ≤ b ∧ 0 ≤ c ∧ 0 ≤ d ∧
  o = .tup ((sortI (ks (stayD a b c d (sortI ts)))).map V.int)
theorem mono_stays {C : Addr} : Mono (sStays K C) := fun _ _ _ _ e ⟨x, dx, l, a, b, c, d, ts, h1, h2, h3, r⟩ => ⟨x, dx, l, a, b, c, d, ts, h1, e _ _ h2, ex_l e h3, r⟩
theorem Rule_stays_ok (T : Md K mg base) (hk : 2 ≤ k) : MethOk P w K mg base T.C_Rule k "stays" ["self", "times"] (spN (sStays K T.C_Rule)) := by
  obtain ⟨k, rfl⟩ : ∃ j, k = j + 1 := ⟨k - 1, by omega⟩
  refine T.md_Rule_stays.ok (N := ["self", "times", "rows", "found", "length", "count", "lasts", "time", "span"]) sc_Rule_stays (by rintro vs H Q E ⟨o, ⟨x, dx, l, a, b, c, d, ts, rfl, -⟩, -⟩; rfl) ?_
  rintro f cdv A outer s H vs Q E hr ⟨o, ⟨x, dx, l, a, b, c, d, ts, rfl, hx, hl, nd, hz, ha, hb, hc0, hd, rfl⟩, q⟩
  refine ⟨_, (pss_cons (ps_set (i := 2) sc_Rule_stays.nd rfl (Or.inl rfl) (b_sortedD T.b (hu64_of hr) (pa_cons (b_dictL T.b (pa_cons (pe_lcF (own := [("time", 7)]) rfl sc_Rule_stays.nd (pi_list (pv 1)) (blkOk_by (own := [("time", 7)]) (N := ["self", "times", "rows", "found", "length", "count", "lasts", "time", "span"]) (sc := defScope st_Rule_stays) (by decide +kernel)) (fun _ _ _ _ _ => (by exact (pg_name (i := 7) sc_Rule_stays.nd rfl (Or.inl rfl)))) (fun _ _ _ _ _ => (by exact pts_nil)) (fun _ _ _ _ _ => (by exact (pe_tup (pa_cons (pv 7) (pa_cons pe_int pa_nil))))) (by walk_at "lcf") (by walk_at "lcf") (by walk_at "lcf")) pa_nil)) pa_nil)))
    (pss_cons (ps_set (i := 3) sc_Rule_stays.nd rfl (Or.inl rfl) (b_dictL T.b (pa_cons (pe_lcF (own := [("time", 7)]) rfl sc_Rule_stays.nd (pi_list (pe_slice sl_list (pv 2) (po_some (pe_op op_sub (b_len T.b (pa_cons (pv 2) pa_nil)) (b_min T.b (pa_cons (pe_fld (pv 0) rfl) (pa_cons (b_len T.b (pa_cons (pv 2) pa_nil)) pa_nil))))) po_none)) (blkOk_by (own := [("time", 7)]) (N := ["self", "times", "rows", "found", "length", "count", "lasts", "time", "span"]) (sc := defScope st_Rule_stays) (by decide +kernel)) (fun _ _ _ _ _ => (by exact (pg_name (i := 7) sc_Rule_stays.nd rfl (Or.inl rfl)))) (fun _ _ _ _ _ => (by exact pts_nil)) (fun _ _ _ _ _ => (by exact (pe_tup (pa_cons (pv 7) (pa_cons pe_int pa_nil))))) (by walk_at "lcf") (by walk_at "lcf") (by walk_at "lcf")) pa_nil)))
    (pss_cons (ps_for PassesOwn.never rfl (pi_tup (pe_m0 T.cl_Rule (Rule_parts_ok T (by omega)) hr (pv 0))) (pg_tup (n := 2) rfl (pgs_cons (pg_name (i := 4) sc_Rule_stays.nd rfl (Or.inl rfl)) (pgs_cons (pg_name (i := 5) sc_Rule_stays.nd rfl (Or.inl rfl)) pgs_nil)))
      (pss_cons (ps_set (i := 6) sc_Rule_stays.nd rfl (Or.inl rfl) pe_dnewK)
      (pss_cons (ps_for PassesOwn.never rfl (pi_list (pv 2)) (pg_name (i := 7) sc_Rule_stays.nd rfl (Or.inl rfl))
        (pss_one (ps_dput (hu_of hr) (pv 6) (pe_op op_fdiv (pv 7) (pv 4)) (pv 7) rfl)))
      (pss_one (ps_for PassesOwn.never rfl (pi_list (pe_slice sl_list (b_sortedD T.b (hu64_of hr) (pa_cons (pv 6) pa_nil)) (po_some (pe_op op_sub (b_lenD T.b (pa_cons (pv 6) pa_nil)) (b_min T.b (pa_cons (pv 5) (pa_cons (b_lenD T.b (pa_cons (pv 6) pa_nil)) pa_nil))))) po_none)) (pg_name (i := 8) sc_Rule_stays.nd rfl (Or.inl rfl))
        (pss_one (ps_dput (hu_of hr) (pv 3) (pe_dget (hu_of hr) (pv 6) (pv 8) (fun _ _ => rfl)) pe_int rfl)))))))
    (pss_one (ps_ret (b_tupleL T.b (pa_cons (b_sortedD T.b (hu64_of hr) (pa_cons (pv 3) pa_nil)) pa_nil))))))), ?_⟩
  have hc := T.cl_Rule
  have hn := T.na_Rule_newest
  have nd' := nd_sortI nd
  have hz' : (sortI ts).length ≤ 100 := by rw [(sortI_perm ts).length_eq]; exact hz
  refine q_asgN (en_srtDIN (ns := ts) (en_onesL (ev_var rfl) hl (by omega) (fun _ => rfl) (fun _ => rfl)) (by rw [mrg_ones nd, en_keys, ks_ones])) fun R H1 hR e1 h1 => ?_
  generalize hrs : sortI ts = rs at nd' hz' h1 q
  refine q_asgN (en_ones (ts := rs.drop (rs.length - a.toNat)) (en_is (en_slL (ev_var rfl) (eo_some (by walk_at "ev")) eo_none (sq_of h1)) ?_) ?_ (fun _ => rfl) (fun _ => rfl)) fun F H2 hF e2 h2 => ?_
  · rw [← cut_last a ha, List.length_map]
  · rw [List.length_drop]; omega
  have hR0 : H R = none := hR
  have hF0 : H F = none := fresh_back e1 hF
  have hRF : R ≠ F := fun z => by rw [z] at h1; rw [h1] at hF; cases hF
  refine q_forTX (K := K) (R := fun xs H' => ∃ us : List Addr, xs = us.map V.ref ∧ Paired (fun q (r : Int × Int) => SqT K H' q [.int r.1, .int r.2]) us [(24, b), (168, c), (672, d)]) ?hN ?hB
  case hN =>
    intro H3 e3 Q3 q3
    have ex3 := (e1.trans e2).trans e3
    exact ⟨_, rfl, x, dx, _, rfl, ex3 _ _ hx, rfl, x, dx, a, b, c, d, rfl, ex3 _ _ hx, fun p us H4 hp e4 h4 hP => q3 _ H4 e4 ⟨p, _, rfl, st_of h4, us, rfl, hP⟩⟩
  case hB =>
    rintro p xs H3 e3 hp ⟨us, rfl, hP⟩
    have e03 := (e1.trans e2).trans e3
    refine ⟨fun i σ' H' => Ex H H' ∧ (∀ q xs, SqT K H3 q xs → SqT K H' q xs) ∧ H' R = some (.lst (rs.map V.int)) ∧ H' F = some (.dK (tI (mrg [] (ones (rs.drop (rs.length - a.toNat) ++ (([(24, b), (168, c), (672, d)] : List (Int × Int)).take i).flatMap fun r => picks r.2 r.1 rs))))) ∧ ∃ u4 u5 u6 u7 u8, σ' = [some (.ref x), some (.ref l), some (.ref R), some (.ref F), u4, u5, u6, u7, u8],
      ⟨e03, fun _ _ h => h, e3 _ _ (e2 _ _ h1), by rw [e3 _ _ h2]; simp, _, _, _, _, _, rfl⟩, ?_, ?_, ?_⟩
    · rintro i σ' H' _ ⟨_, hT, _⟩
      exact hT _ _ hp
    · rintro i xv σ' H' hi ⟨e, hT, hR', hF', u4, u5, u6, u7, u8, rfl⟩
      obtain ⟨q5, r, rfl, hr, hq⟩ := ref_at hP hi
      have hr3 : 0 < r.1 ∧ r.1 < 1000 ∧ 0 ≤ r.2 := by
        have z := List.mem_of_getElem? hr
        rcases List.mem_cons.mp z with rfl | z
        · exact ⟨by simp, by simp, hb⟩
        rcases List.mem_cons.mp z with rfl | z
        · exact ⟨by simp, by simp, hc0⟩
        · rw [List.mem_singleton.mp z]; exact ⟨by simp, by simp, hd⟩
      have htake : (([(24, b), (168, c), (672, d)] : List (Int × Int)).take (i + 1)) = ([(24, b), (168, c), (672, d)] : List (Int × Int)).take i ++ [r] := by
        obtain ⟨g1, g2⟩ := List.getElem?_eq_some_iff.mp hr
        rw [List.take_succ_eq_append_getElem g1, g2]
      generalize hA : rs.drop (rs.length - a.toNat) ++ (([(24, b), (168, c), (672, d)] : List (Int × Int)).take i).flatMap (fun r => picks r.2 r.1 rs) = A at hF'
      have hA2 : rs.drop (rs.length - a.toNat) ++ (([(24, b), (168, c), (672, d)] : List (Int × Int)).take (i + 1)).flatMap (fun r => picks r.2 r.1 rs) = A ++ picks r.2 r.1 rs := by
        rw [htake, List.flatMap_append, ← List.append_assoc, hA]; simp
      have hAl : A.length ≤ 400 := by
        rw [← hA, List.length_append, List.length_drop]
        have p1 := picks_len b 24 rs
        have p2 := picks_len c 168 rs
        have hi3 : i < 3 := (List.getElem?_eq_some_iff.mp hr).1
        obtain rfl | rfl | rfl : i = 0 ∨ i = 1 ∨ i = 2 := by omega
        · simp; omega
        · simp; omega
        · simp; omega
      refine g_tup2 (hT _ _ hq) ?_
      refine q_asgN en_dnew fun La H4 hLa e4 h4 => ?_
      have hLF : La ≠ F := fun z => by rw [z, hF'] at hLa; cases hLa
      have hLR : La ≠ R := fun z => by rw [z, hR'] at hLa; cases hLa
      have hL0 : H La = none := fresh_back e hLa
      refine q_forLn (xs := rs.map V.int) (ev_var rfl) (sq_of (e4 _ _ hR')) (fun j σ'' H'' => Ex H H'' ∧ (∀ q xs, SqT K H3 q xs → SqT K H'' q xs) ∧ H'' R = some (.lst (rs.map V.int)) ∧ H'' F = some (.dK (tI (mrg [] (ones A)))) ∧ H'' La = some (.dK (tI (mrg [] ((rs.take j).map fun t => (t / r.1, t))))) ∧ ∃ u7 u8, σ'' = [some (.ref x), some (.ref l), some (.ref R), some (.ref F), some (.int r.1), some (.int r.2), some (.ref La), u7, u8]) ?_ ?_ ?_ ?_
      · intro H5 e5
        exact ⟨(e.trans e4).trans e5, fun q xs hq => ex_t (e4.trans e5) (hT q xs hq), e5 _ _ (e4 _ _ hR'), e5 _ _ (e4 _ _ hF'), e5 _ _ h4, _, _, rfl⟩
      · rintro j σ'' H'' _ ⟨_, _, h, _⟩
        exact sq_of h
      · rintro j y σ'' H'' hj ⟨ee, hTT, hRR, hFF, hLL, u7, u8, rfl⟩
        obtain ⟨t, ht, hti, rfl⟩ := map_at' hj
        have hm := len_mrg ((rs.take j).map fun t => (t / r.1, t)) []
        rw [List.length_map, List.length_take, List.length_nil] at hm
        refine s_dput (k := .inl (t / r.1)) (v := .int t) (ev_var rfl) (ev_var rfl) (ev_op (ev_var rfl) (ev_var rfl) (rv_I ⟨hr3.1, by omega⟩)) hLL (by rw [en_len]; exact sz_lt (by omega)) fun H6 e6 => ?_
        refine ⟨Ex.mut (ee.trans e6) hL0, fun q xs hq => exb_t (exb_upd (exb_of (Ex.refl _))) (rd_of (e6 _ _ hLL)) (ex_t e6 (hTT q xs hq)), by rw [upd_ne (Ne.symm hLR)]; exact e6 _ _ hRR, by rw [upd_ne (Ne.symm hLF)]; exact e6 _ _ hFF, ?_, _, _, rfl⟩
        rw [upd_same, take_map_succ _ hti, mrg_snoc]
        exact congrArg (fun y => some (HO.dK y)) (en_put inl_inj' _ (t / r.1) t)
      · rintro σ'' H'' ⟨ee, hTT, hRR, hFF, hLL, u7, u8, rfl⟩
        rw [List.length_map, List.take_length] at hLL
        have hsp : mrg [] (rs.map fun t => (t / r.1, t)) = spansD r.1 rs := rfl
        rw [hsp] at hLL
        generalize hD : spansD r.1 rs = D at hLL
        have hlen : (tI D).length = (sortI (ks D)).length := by rw [en_len, (sortI_perm _).length_eq]; simp [ks]
        have hlen2 : D.length = (sortI (ks D)).length := by rw [← hlen, en_len]
        have hpk : picks r.2 r.1 rs = ((sortI (ks D)).drop ((sortI (ks D)).length - r.2.toNat)).map fun s => (lk D s).getD 0 := by
          unfold picks
          rw [hD, hlen2]
        have hDl : D.length ≤ 100 := by
          rw [← hD]
          have hm := len_mrg (rs.map fun t => (t / r.1, t)) []
          rw [List.length_map, List.length_nil] at hm
          unfold spansD
          omega
        dsimp only
        have hDm : ∀ s ∈ sortI (ks D), ∃ t, lk D s = some t := fun s hs => mem_ks (mem_sortI.mp hs)
        generalize hsp2 : (sortI (ks D)).drop ((sortI (ks D)).length - r.2.toNat) = sp at hpk
        have hspm : ∀ s ∈ sp, ∃ t, lk D s = some t := fun s hs => hDm s (by rw [← hsp2] at hs; exact List.mem_of_mem_drop hs)
        have hspl : sp.length ≤ 100 := by rw [← hsp2, List.length_drop]; omega
        refine s_forN (K := K) (xs := sp.map V.int) (en_is (en_slN (en_srtDI (ev_var rfl) (rd_of hLL) (en_keys D)) (eo_some (ev_op (ev_cb (ea_cons (ev_var rfl) ea_nil) (rc_len (.dic (rd_of hLL)))) (ev_cb (ea_cons (ev_var rfl) (ea_cons (ev_cb (ea_cons (ev_var rfl) ea_nil) (rc_len (.dic (rd_of hLL)))) ea_nil)) rc_min2) rv_I0)) eo_none) ?_) (fun p j σ'' H'' => Ex H H'' ∧ (∀ q xs, SqT K H3 q xs → SqT K H'' q xs) ∧ H'' R = some (.lst (rs.map V.int)) ∧ H'' F = some (.dK (tI (mrg [] (ones (A ++ (picks r.2 r.1 rs).take j))))) ∧ H'' La = some (.dK (tI D)) ∧ p ≠ F ∧ H'' p = some (.lst (sp.map V.int)) ∧ ∃ u7 u8, σ'' = [some (.ref x), some (.ref l), some (.ref R), some (.ref F), some (.int r.1), some (.int r.2), some (.ref La), u7, u8]) ?_ ?_ ?_ ?_
        · rw [hlen, cut_last r.2 hr3.2.2, hsp2]
        · intro p5 H5 hp5 e5 h5
          exact ⟨ee.trans e5, fun q xs hq => ex_t e5 (hTT q xs hq), e5 _ _ hRR, by rw [e5 _ _ hFF]; simp, e5 _ _ hLL, (fun z => by rw [z, hFF] at hp5; cases hp5), h5, _, _, rfl⟩
        · rintro p5 j σ'' H5 _ ⟨_, _, _, _, _, _, h, _⟩
          exact sq_of h
        · rintro p5 j y σ'' H5 hj ⟨e5, hT5, hR5, hF5, hL5, hpF, hp5, u7, u8, rfl⟩
          obtain ⟨s5, hs5, hsi, rfl⟩ := map_at' hj
          obtain ⟨t, ht⟩ := hspm s5 hs5
          have hpj : (picks r.2 r.1 rs)[j]? = some t := by rw [hpk, List.getElem?_map, hsi]; show some ((lk D s5).getD 0) = _; rw [ht]; rfl
          have hm := len_mrg (ones (A ++ (picks r.2 r.1 rs).take j)) []
          have hpl := picks_len r.2 r.1 rs
          rw [List.length_nil] at hm
          have hol : (ones (A ++ (picks r.2 r.1 rs).take j)).length ≤ 600 := by unfold ones; rw [List.length_map, List.length_append, List.length_take]; omega
          refine s_dput (k := .inl t) (v := .int 1) ev_c (ev_var rfl) (ev_dget (k := .inl s5) (ev_var rfl) (ev_var rfl) (rd_of hL5) (by rw [en_look inl_inj', ht]; rfl)) hF5 (by rw [en_len]; exact sz_lt (by omega)) fun H6 e6 => ?_
          refine ⟨Ex.mut (e5.trans e6) hF0, fun q xs hq => exb_t (exb_upd (exb_of (Ex.refl _))) (rd_of (e6 _ _ hF5)) (ex_t e6 (hT5 q xs hq)), by rw [upd_ne hRF]; exact e6 _ _ hR5, ?_, by rw [upd_ne hLF]; exact e6 _ _ hL5, hpF, by rw [upd_ne hpF]; exact e6 _ _ hp5, _, _, rfl⟩
          obtain ⟨g1, g2⟩ := List.getElem?_eq_some_iff.mp hpj
          have hfin : ∀ B : List Int, mrg [] (ones (B ++ [t])) = pu (mrg [] (ones B)) t 1 := fun B => by rw [ones_app B [t], mrg_append]; rfl
          rw [upd_same, List.take_succ_eq_append_getElem g1, g2, ← List.append_assoc, hfin]
          exact congrArg (fun y => some (HO.dK y)) (en_put inl_inj' _ t 1)
        · rintro p5 σ'' H5 ⟨e5, hT5, hR5, hF5, hL5, hpF, hp5, u7, u8, rfl⟩
          have hpl : (picks r.2 r.1 rs).length = sp.length := by rw [hpk, List.length_map]
          rw [List.length_map, ← hpl, List.take_length, ← hA2] at hF5
          exact ⟨e5, hT5, hR5, hF5, _, _, _, _, _, rfl⟩
    · rintro σ' H' ⟨e, hT, hR', hF', u4, u5, u6, u7, u8, rfl⟩
      have hul : us.length = 3 := Paired.length hP
      rw [List.length_map, hul] at hF'
      refine s_retN (en_tupN (en_srtDI (ev_var rfl) (rd_of hF') (en_keys _))) fun p4 H4 hp4 e4 h4 => q p4 H4 (fresh_back e hp4) (e.trans e4) ?_
      rw [h4]
      unfold stayD
      simp [List.append_assoc]
end
end Kw


set_option Elab.async false
set_option linter.all false
set_option maxRecDepth 100000
set_option maxHeartbeats 4000000
/-! Rul3: the rule's goes. -/
namespace Kw
open PySem PySem.Spec PyProof.Rows L2 Evl
local macro_rules
  | `(tactic| walk_at "hp") => `(tactic| first
      | exact prp (by assumption)
      | exact rfl
      | exact upd_same
      | ((with_reducible apply sq_of); first | assumption | exact upd_same)
      | ((with_reducible apply st_of); first | assumption | exact upd_same)
      | ((with_reducible apply rd_of); first | assumption | exact upd_same)
      | ((with_reducible apply ex_l); assumption; walk_at "hp")
      | ((with_reducible apply ex_t); assumption; walk_at "hp")
      | ((with_reducible apply ex_rd); assumption; walk_at "hp")
      | ((with_reducible apply ex_at); assumption; walk_at "hp")
      | ((with_reducible apply Or.inl); walk_at "hp")
      | ((with_reducible apply Or.inr); walk_at "hp")
      | ((with_reducible apply LenD.lst); walk_at "hp")
      | ((with_reducible apply LenD.tup); walk_at "hp")
      | ((with_reducible apply LenD.dic); walk_at "hp")
      | ((with_reducible apply LenD.str); walk_at "hp")
      | ((with_reducible apply mulR); decide)
      | ((with_reducible apply mulL); decide)
      | decide
      | omega)
local macro_rules
  | `(tactic| walk_at "ev") => `(tactic| ((fail_if_success (with_reducible apply ev_bad)); (fail_if_success (with_reducible apply et_bad)); (fail_if_success (with_reducible apply ea_bad)); (fail_if_success (with_reducible apply en_bad)); first
      | ((with_reducible apply ev_var); exact rfl)
      | (with_reducible exact ev_c)
      | (with_reducible exact ea_nil)
      | (with_reducible exact eo_none)
      | ((with_reducible apply eo_some) <;> try walk_at "ev")
      | ((with_reducible apply ea_cons) <;> try walk_at "ev")
      | ((with_reducible apply ev_inTup) <;> try walk_at "ev")
      | ((with_reducible apply ev_niTup) <;> try walk_at "ev")
      | ((with_reducible apply ev_ixP) <;> try walk_at "ev")
      | (with_reducible exact rv_isN)
      | (with_reducible exact rv_notN)
      | ((with_reducible apply ev_op) <;> try walk_at "ev")
      | (with_reducible exact rv_I0)
      | ((with_reducible apply rv_I) <;> try walk_at "hp")
      | ((with_reducible apply rv_eq); exact rfl)
      | ((with_reducible apply rv_ne); exact rfl)
      | ((with_reducible apply rv_addS) <;> try walk_at "hp")
      | ((with_reducible apply rv_ixL); walk_at "hp"; walk_at "hp")
      | ((with_reducible apply rv_ixT); walk_at "hp"; walk_at "hp")
      | ((with_reducible apply ev_cb) <;> try walk_at "ev")
      | ((with_reducible apply rc_len); walk_at "hp")
      | (with_reducible exact rc_ord)
      | ((with_reducible apply rc_str) <;> try walk_at "hp")
      | (with_reducible exact rc_int)
      | (with_reducible exact rc_intB)
      | (with_reducible exact rc_abs)
      | (with_reducible exact rc_max2)
      | (with_reducible exact rc_min2)
      | ((with_reducible apply ev_joinN) <;> try walk_at "ev")
      | ((with_reducible apply ev_m1) <;> try walk_at "ev")
      | ((with_reducible apply rm_strip) <;> try walk_at "hp")
      | (with_reducible exact rm_starts)
      | ((with_reducible apply rm_join) <;> try walk_at "hp")
      | ((with_reducible apply ev_slS) <;> try walk_at "ev")
      | ((with_reducible apply ev_dget) <;> try walk_at "ev")
      | ((with_reducible apply ev_din) <;> try walk_at "ev")
      | ((with_reducible apply ev_dnotin) <;> try walk_at "ev")
      | ((with_reducible apply ev_fld) <;> try walk_at "ev")
      | ((with_reducible apply et_test) <;> try walk_at "ev")
      | ((with_reducible apply et_B) <;> try walk_at "ev")
      | ((with_reducible apply et_and) <;> try walk_at "ev")
      | ((with_reducible apply et_or) <;> try walk_at "ev")
      | ((with_reducible apply et_not) <;> try walk_at "ev")
      | (with_reducible exact en_dnew)
      | (with_reducible exact et_yes)
      | ((with_reducible apply ex_tup) <;> try walk_at "ev")
      | ((with_reducible apply en_slL) <;> try walk_at "ev")
      | ((with_reducible apply en_split) <;> try walk_at "ev")
      | ((with_reducible apply en_part) <;> try walk_at "ev")
      | walk_at "hp"
      | ((with_reducible refine fun hb => ?_); try walk_at "ev")))
local macro_rules
  | `(tactic| walk_at "lcf") => `(tactic| first
      | (intro _ _ _ _ _; exact rfl)
      | (intro _ _ _ _ _; dsimp only [Cx.blk]; done)
      | (intro _ _ _ _ _; dsimp only [Cx.blk]; exact rfl))
theorem inV_int (t : Int) (l : List Int) : inV (.int t) (l.map V.int) = decide (t ∈ l) := by
  unfold inV
  rw [List.any_map]
  by_cases h : t ∈ l
  · rw [decide_eq_true h, List.any_eq_true]
    exact ⟨t, h, by simp [eqV]⟩
  · rw [decide_eq_false h, List.any_eq_false]
    intro x hx
    simp only [Function.comp, eqV]
    intro z
    simp at z
    exact h (z ▸ hx)
theorem flat_ints (l : List Int) : (l.map V.int).all flatV = true := by
  rw [List.all_eq_true]
  intro x hx
  obtain ⟨y, _, rfl⟩ := List.mem_map.mp hx
  rfl
/-- the times that go -/
def goesL (a b c d : Int) (ts : List Int) : List Int := (sortI ts).filter fun t => decide (t ∉ ks (stayD a b c d (sortI ts)))
section
variable {P : Program} {w : World} {K : PySem.W.Frag} {mg : Str → Option Value} {base : Heap} {k : Nat}
def sGoes (K : PySem.W.Frag) (C : Addr) : List V → Hp → HO → Prop := fun vs H o => ∃ (x dx l : Addr) (a b c d : Int) (ts : List Int), vs = [.ref x, .ref l] ∧ H x = some (.ins C dx (ruleF a b c d)) ∧ SqL K H l (ts.map V.int) ∧ ts.Nodup ∧ ts.length ≤ 100 ∧ 0 ≤ a ∧ 0 ≤ b ∧ 0 ≤ c ∧ 0 ≤ d ∧
  o = .tup ((goesL a b c d ts).map V.int)
theorem mono_goes {C : Addr} : Mono (sGoes K C) := fun _ _ _ _ e ⟨x, dx, l, a, b, c, d, ts, h1, h2, h3, r⟩ => ⟨x, dx, l, a, b, c, d, ts, h1, e _ _ h2, ex_l e h3, r⟩
theorem Rule_goes_ok (T : Md K mg base) (hk : 3 ≤ k) : MethOk P w K mg base T.C_Rule k "goes" ["self", "times"] (spN (sGoes K T.C_Rule)) := by
  obtain ⟨k, rfl⟩ : ∃ j, k = j + 1 := ⟨k - 1, by omega⟩
  refine T.md_Rule_goes.ok (N := ["self", "times", "stays", "time"]) sc_Rule_goes (by rintro vs H Q E ⟨o, ⟨x, dx, l, a, b, c, d, ts, rfl, -⟩, -⟩; rfl) ?_
  rintro f cdv A outer s H vs Q E hr ⟨o, ⟨x, dx, l, a, b, c, d, ts, rfl, hx, hl, nd, hz, ha, hb, hc0, hd, rfl⟩, q⟩
  refine ⟨_, (pss_cons (ps_set (i := 2) sc_Rule_goes.nd rfl (Or.inr rfl) (pe_m T.cl_Rule (Rule_stays_ok T (by omega)) hr (pv 0) (pa_cons (pv 1) pa_nil)))
    (pss_one (ps_ret (b_tupleL T.b (pa_cons (pe_lcF (own := [("time", 3)]) rfl sc_Rule_goes.nd (pi_list (b_sortedD T.b (hu64_of hr) (pa_cons (b_dictL T.b (pa_cons (pe_lcF (own := [("time", 3)]) rfl sc_Rule_goes.nd (pi_list (pv 1)) (blkOk_by (own := [("time", 3)]) (N := ["self", "times", "stays", "time"]) (sc := defScope st_Rule_goes) (by decide +kernel)) (fun _ _ _ _ _ => (by exact (pg_name (i := 3) sc_Rule_goes.nd rfl (Or.inl rfl)))) (fun _ _ _ _ _ => (by exact pts_nil)) (fun _ _ _ _ _ => (by exact (pe_tup (pa_cons (pv 3) (pa_cons pe_int pa_nil))))) (by walk_at "lcf") (by walk_at "lcf") (by walk_at "lcf")) pa_nil)) pa_nil))) (blkOk_by (own := [("time", 3)]) (N := ["self", "times", "stays", "time"]) (sc := defScope st_Rule_goes) (by decide +kernel)) (fun _ _ _ _ _ => (by exact (pg_name (i := 3) sc_Rule_goes.nd rfl (Or.inl rfl)))) (fun _ _ _ _ _ => (by exact (pts_one (pt_cmpR op_notIn_seq (pv 3) (pv 2) (by rfl))))) (fun _ _ _ _ _ => (by exact (pv 3))) (by walk_at "lcf") (by walk_at "lcf") (by walk_at "lcf")) pa_nil))))), ?_⟩
  have hz' : (sortI ts).length ≤ 100 := by rw [(sortI_perm ts).length_eq]; exact hz
  refine q_asgN (en_mt mono_stays (ev_var rfl) hx rfl (by walk_at "ev") ⟨x, dx, l, a, b, c, d, ts, rfl, hx, hl, nd, hz, ha, hb, hc0, hd, rfl⟩) fun S H1 hS e1 h1 => ?_
  refine s_retN (en_tupN (en_is (en_lc (α := Int) (as := sortI ts) (b := fun t => decide (t ∉ ks (stayD a b c d (sortI ts)))) (f := V.int) (lc_N (sortI ts) V.int _ _ (en_srtDIN (ns := ts) (en_onesL (ev_var rfl) (ex_l e1 hl) (by omega) (fun _ => rfl) (fun _ => rfl)) (by rw [mrg_ones nd, en_keys, ks_ones])) (by omega) (fun _ => rfl) m_val ?_ ?_)) rfl)) fun p H2 hp e2 h2 => q p H2 (fresh_back e1 hp) (e1.trans e2) h2
  · intro t H2 ht e2
    refine et_is (et_test (ev_op (ev_var rfl) (ev_var rfl) (rv_niT (ex_t e2 (st_of h1)) rfl (flat_ints _)))) ?_
    rw [inV_int]
    by_cases z : t ∈ ks (stayD a b c d (sortI ts))
    · rw [decide_eq_true (mem_sortI.mpr z)]; simp [z]
    · rw [decide_eq_false (fun y => z (mem_sortI.mp y))]; simp [z]
  · intro t H2 ht _ e2
    exact ev_x (ev_var rfl)
end
end Kw


set_option Elab.async false
set_option linter.all false
set_option maxRecDepth 100000
set_option maxHeartbeats 4000000
/-! Law2: the law's own goes. -/
namespace Kw
open PySem PySem.Spec PyProof.Rows L2 Evl
local macro_rules
  | `(tactic| walk_at "hp") => `(tactic| first
      | exact prp (by assumption)
      | exact rfl
      | exact upd_same
      | ((with_reducible apply sq_of); first | assumption | exact upd_same)
      | ((with_reducible apply st_of); first | assumption | exact upd_same)
      | ((with_reducible apply rd_of); first | assumption | exact upd_same)
      | ((with_reducible apply ex_l); assumption; walk_at "hp")
      | ((with_reducible apply ex_t); assumption; walk_at "hp")
      | ((with_reducible apply ex_rd); assumption; walk_at "hp")
      | ((with_reducible apply ex_at); assumption; walk_at "hp")
      | ((with_reducible apply Or.inl); walk_at "hp")
      | ((with_reducible apply Or.inr); walk_at "hp")
      | ((with_reducible apply LenD.lst); walk_at "hp")
      | ((with_reducible apply LenD.tup); walk_at "hp")
      | ((with_reducible apply LenD.dic); walk_at "hp")
      | ((with_reducible apply LenD.str); walk_at "hp")
      | ((with_reducible apply mulR); decide)
      | ((with_reducible apply mulL); decide)
      | decide
      | omega)
local macro_rules
  | `(tactic| walk_at "ev") => `(tactic| ((fail_if_success (with_reducible apply ev_bad)); (fail_if_success (with_reducible apply et_bad)); (fail_if_success (with_reducible apply ea_bad)); (fail_if_success (with_reducible apply en_bad)); first
      | ((with_reducible apply ev_var); exact rfl)
      | (with_reducible exact ev_c)
      | (with_reducible exact ea_nil)
      | (with_reducible exact eo_none)
      | ((with_reducible apply eo_some) <;> try walk_at "ev")
      | ((with_reducible apply ea_cons) <;> try walk_at "ev")
      | ((with_reducible apply ev_inTup) <;> try walk_at "ev")
      | ((with_reducible apply ev_niTup) <;> try walk_at "ev")
      | ((with_reducible apply ev_ixP) <;> try walk_at "ev")
      | (with_reducible exact rv_isN)
      | (with_reducible exact rv_notN)
      | ((with_reducible apply ev_op) <;> try walk_at "ev")
      | (with_reducible exact rv_I0)
      | ((with_reducible apply rv_I) <;> try walk_at "hp")
      | ((with_reducible apply rv_eq); exact rfl)
      | ((with_reducible apply rv_ne); exact rfl)
      | ((with_reducible apply rv_addS) <;> try walk_at "hp")
      | ((with_reducible apply rv_ixL); walk_at "hp"; walk_at "hp")
      | ((with_reducible apply rv_ixT); walk_at "hp"; walk_at "hp")
      | ((with_reducible apply ev_cb) <;> try walk_at "ev")
      | ((with_reducible apply rc_len); walk_at "hp")
      | (with_reducible exact rc_ord)
      | ((with_reducible apply rc_str) <;> try walk_at "hp")
      | (with_reducible exact rc_int)
      | (with_reducible exact rc_intB)
      | (with_reducible exact rc_abs)
      | (with_reducible exact rc_max2)
      | (with_reducible exact rc_min2)
      | ((with_reducible apply ev_joinN) <;> try walk_at "ev")
      | ((with_reducible apply ev_m1) <;> try walk_at "ev")
      | ((with_reducible apply rm_strip) <;> try walk_at "hp")
      | (with_reducible exact rm_starts)
      | ((with_reducible apply rm_join) <;> try walk_at "hp")
      | ((with_reducible apply ev_slS) <;> try walk_at "ev")
      | ((with_reducible apply ev_dget) <;> try walk_at "ev")
      | ((with_reducible apply ev_din) <;> try walk_at "ev")
      | ((with_reducible apply ev_dnotin) <;> try walk_at "ev")
      | ((with_reducible apply ev_fld) <;> try walk_at "ev")
      | ((with_reducible apply et_test) <;> try walk_at "ev")
      | ((with_reducible apply et_B) <;> try walk_at "ev")
      | ((with_reducible apply et_and) <;> try walk_at "ev")
      | ((with_reducible apply et_or) <;> try walk_at "ev")
      | ((with_reducible apply et_not) <;> try walk_at "ev")
      | (with_reducible exact en_dnew)
      | (with_reducible exact et_yes)
      | ((with_reducible apply ex_tup) <;> try walk_at "ev")
      | ((with_reducible apply en_slL) <;> try walk_at "ev")
      | ((with_reducible apply en_split) <;> try walk_at "ev")
      | ((with_reducible apply en_part) <;> try walk_at "ev")
      | walk_at "hp"
      | ((with_reducible refine fun hb => ?_); try walk_at "ev")))
local macro_rules
  | `(tactic| walk_at "lcf") => `(tactic| first
      | (intro _ _ _ _ _; exact rfl)
      | (intro _ _ _ _ _; dsimp only [Cx.blk]; done)
      | (intro _ _ _ _ _; dsimp only [Cx.blk]; exact rfl))
section
variable {K : PySem.W.Frag} {σ : L2.St} {H : Hp} {te : TE} {D : Ends} {tz : TS} {a b c d : V}
/-- a, b, c, d = a list -/
theorem q_asgL4 {i j l m : Nat} {p : Addr} (h : Ev te σ H (.ref p)) (hs : SqL K H p [a, b, c, d]) (k : ∀ H1, Ex H H1 → tz D ((((σ.set i (some a)).set j (some b)).set l (some c)).set m (some d)) H1) :
    tSeq (tAsg te (gLst K 4 (gCons (gName i) (gCons (gName j) (gCons (gName l) (gCons (gName m) gNil)))))) tz D σ H :=
  h H (Ex.refl H) _ fun H1 e1 => ⟨p, _, rfl, ex_l e1 hs, rfl, a, _, rfl, b, _, rfl, c, _, rfl, d, _, rfl, rfl, k H1 e1⟩
end
section
variable {K : PySem.W.Frag} {σ : L2.St} {H : Hp} {tl t1 t2 t3 : TE} {D : Ends} {tz tu : TS} {g : TG}
theorem q_forLX {R : Addr → List V → Hp → Prop} (h : EvX tl σ H (fun v H' => ∃ p xs, v = .ref p ∧ SqL K H' p xs ∧ R p xs H'))
    (body : ∀ p xs H1, Ex H H1 → SqL K H1 p xs → R p xs H1 → ∃ Pv : Nat → L2.St → Hp → Prop, Pv 0 σ H1 ∧ (∀ i σ' H', i ≤ xs.length → Pv i σ' H' → SqL K H' p xs) ∧
      (∀ i x σ' H', xs[i]? = some x → Pv i σ' H' → g x σ' H' fun σ2 H2 => tu { D with nx := Pv (i + 1), ct := Pv (i + 1), bk := tz D } σ2 H2) ∧ (∀ σ' H', Pv xs.length σ' H' → tz D σ' H')) : tSeq (tFor (iList K tl) g tu) tz D σ H :=
  h H (Ex.refl H) _ fun v H1 e1 hv => by
    obtain ⟨p, xs, rfl, hs, hr⟩ := hv
    obtain ⟨Pv, h0, hl, hst, hd⟩ := body p xs H1 e1 hs hr
    exact ⟨p, rfl, ⟨_, hs⟩, for_list Pv h0 hl hst hd⟩
theorem ex_lst3 {w1 w2 w3 : List V} (h1 : EvX t1 σ H (fun v H' => ∃ p, v = .ref p ∧ SqT K H' p w1)) (h2 : EvX t2 σ H (fun v H' => ∃ p, v = .ref p ∧ SqT K H' p w2)) (h3 : EvX t3 σ H (fun v H' => ∃ p, v = .ref p ∧ SqT K H' p w3)) :
    EvX (tLst (tCons t1 (tCons t2 (tCons t3 tNil)))) σ H (fun v H' => ∃ p us, v = .ref p ∧ H' p = some (.lst (us.map V.ref)) ∧ Paired (fun (q : Addr) (w : List V) => SqT K H' q w) us [w1, w2, w3]) := fun G e Q q =>
  (h1.mono e).use fun v1 H1 e1 ⟨p1, r1, g1⟩ => ((h2.mono e).mono e1).use fun v2 H2 e2 ⟨p2, r2, g2⟩ => (((h3.mono e).mono e1).mono e2).use fun v3 H3 e3 ⟨p3, r3, g3⟩ => ⟨by show 3 ≤ sizeLine; decide, fun p hp => by
    subst r1 r2 r3
    have en := Ex.new (o := .lst [V.ref p1, .ref p2, .ref p3]) hp
    exact q _ _ (((e1.trans e2).trans e3).trans en) ⟨p, [p1, p2, p3], rfl, upd_same, .cons (ex_t ((e2.trans e3).trans en) g1) (.cons (ex_t (e3.trans en) g2) (.cons (ex_t en g3) .nil))⟩⟩
end
theorem cut_last2 {ts : List Int} (a : Int) (h0 : 0 ≤ a) : cutV (ts.map V.int) (some (if (ts.length : Int) - a > 0 then (ts.length : Int) - a else 0)) none = (ts.drop (ts.length - a.toNat)).map V.int := by
  have e : (if (ts.length : Int) - a > 0 then (ts.length : Int) - a else 0) = ((ts.length - a.toNat : Nat) : Int) := by split <;> omega
  rw [e, cutV_from, ← List.map_drop]
section
variable {P : Program} {w : World} {K : PySem.W.Frag} {mg : Str → Option Value} {base : Heap} {k : Nat}
def sLawGoes (K : PySem.W.Frag) : List V → Hp → HO → Prop := fun vs H o => ∃ (q l : Addr) (a b c d : Int) (ts : List Int), vs = [.ref q, .ref l] ∧ SqL K H q [.int a, .int b, .int c, .int d] ∧ SqL K H l (ts.map V.int) ∧ ts.Nodup ∧ ts.length ≤ 100 ∧ 0 ≤ a ∧ 0 ≤ b ∧ 0 ≤ c ∧ 0 ≤ d ∧
  o = .lst ((goesL a b c d ts).map V.int)
theorem mono_lawgoes : Mono (sLawGoes K) := fun _ _ _ _ e ⟨q, l, a, b, c, d, ts, h1, h2, h3, r⟩ => ⟨q, l, a, b, c, d, ts, h1, ex_l e h2, ex_l e h3, r⟩
theorem law_goes_ok (T : Md K mg base) (hk : 1 ≤ k) : CallOk P w K mg base k "_law_goes" ["counts", "times"] (spN (sLawGoes K)) := by
  obtain ⟨k, rfl⟩ : ∃ j, k = j + 1 := ⟨k - 1, by omega⟩
  refine T.d_law_goes.ok (N := ["counts", "times", "last", "days", "weeks", "months", "stay", "count", "size", "spans", "time", "span"]) sc_law_goes (by rintro vs H Q E ⟨o, ⟨q, l, a, b, c, d, ts, rfl, -⟩, -⟩; rfl) ?_
  rintro f cdv A outer s H vs Q E hr ⟨o, ⟨cn, l, a, b, c, d, ts, rfl, hcn, hl, nd, hz, ha, hb, hc0, hd, rfl⟩, q⟩
  refine ⟨_, (pss_cons (ps_asg (pv 0) (pg_lst (n := 4) rfl (pgs_cons (pg_name (i := 2) sc_law_goes.nd rfl (Or.inl rfl)) (pgs_cons (pg_name (i := 3) sc_law_goes.nd rfl (Or.inl rfl)) (pgs_cons (pg_name (i := 4) sc_law_goes.nd rfl (Or.inl rfl)) (pgs_cons (pg_name (i := 5) sc_law_goes.nd rfl (Or.inl rfl)) pgs_nil))))))
    (pss_cons (ps_set (i := 6) sc_law_goes.nd rfl (Or.inr rfl) (b_dictL T.b (pa_cons (pe_lcF (own := [("time", 10)]) rfl sc_law_goes.nd (pi_list (pe_slice sl_list (b_sortedL T.b (hu64_of hr) (pa_cons (pv 1) pa_nil)) (po_some (b_max T.b (pa_cons pe_int (pa_cons (pe_op op_sub (b_len T.b (pa_cons (pv 1) pa_nil)) (pv 2)) pa_nil)))) po_none)) (blkOk_by (own := [("time", 10)]) (N := ["counts", "times", "last", "days", "weeks", "months", "stay", "count", "size", "spans", "time", "span"]) (sc := defScope st_law_goes) (by decide +kernel)) (fun _ _ _ _ _ => (by exact (pg_name (i := 10) sc_law_goes.nd rfl (Or.inl rfl)))) (fun _ _ _ _ _ => (by exact pts_nil)) (fun _ _ _ _ _ => (by exact (pe_tup (pa_cons (pv 10) (pa_cons pe_int pa_nil))))) (by walk_at "lcf") (by walk_at "lcf") (by walk_at "lcf")) pa_nil)))
    (pss_cons (ps_for PassesOwn.never rfl (pi_list (pe_lst (pa_cons (pe_tup (pa_cons (pv 3) (pa_cons pe_int pa_nil))) (pa_cons (pe_tup (pa_cons (pv 4) (pa_cons pe_int pa_nil))) (pa_cons (pe_tup (pa_cons (pv 5) (pa_cons pe_int pa_nil))) pa_nil))))) (pg_tup (n := 2) rfl (pgs_cons (pg_name (i := 7) sc_law_goes.nd rfl (Or.inl rfl)) (pgs_cons (pg_name (i := 8) sc_law_goes.nd rfl (Or.inl rfl)) pgs_nil)))
      (pss_cons (ps_set (i := 9) sc_law_goes.nd rfl (Or.inl rfl) pe_dnewK)
      (pss_cons (ps_for PassesOwn.never rfl (pi_list (b_sortedL T.b (hu64_of hr) (pa_cons (pv 1) pa_nil))) (pg_name (i := 10) sc_law_goes.nd rfl (Or.inl rfl))
        (pss_one (ps_dput (hu_of hr) (pv 9) (pe_op op_fdiv (pv 10) (pv 8)) (pv 10) rfl)))
      (pss_one (ps_for PassesOwn.never rfl (pi_list (pe_slice sl_list (b_sortedD T.b (hu64_of hr) (pa_cons (pv 9) pa_nil)) (po_some (b_max T.b (pa_cons pe_int (pa_cons (pe_op op_sub (b_lenD T.b (pa_cons (pv 9) pa_nil)) (pv 7)) pa_nil)))) po_none)) (pg_name (i := 11) sc_law_goes.nd rfl (Or.inl rfl))
        (pss_one (ps_dput (hu_of hr) (pv 6) (pe_dget (hu_of hr) (pv 9) (pv 11) (fun _ _ => rfl)) pe_int rfl)))))))
    (pss_one (ps_ret (pe_lcF (own := [("time", 10)]) rfl sc_law_goes.nd (pi_list (b_sortedL T.b (hu64_of hr) (pa_cons (pv 1) pa_nil))) (blkOk_by (own := [("time", 10)]) (N := ["counts", "times", "last", "days", "weeks", "months", "stay", "count", "size", "spans", "time", "span"]) (sc := defScope st_law_goes) (by decide +kernel)) (fun _ _ _ _ _ => (by exact (pg_name (i := 10) sc_law_goes.nd rfl (Or.inl rfl)))) (fun _ _ _ _ _ => (by exact (pts_one (pt_cmp (pc_dnotin (hu_of hr) (pv 10) (pv 6)))))) (fun _ _ _ _ _ => (by exact (pv 10))) (by walk_at "lcf") (by walk_at "lcf") (by walk_at "lcf"))))))), ?_⟩
  have nd' := nd_sortI nd
  have hz' : (sortI ts).length ≤ 100 := by rw [(sortI_perm ts).length_eq]; exact hz
  have hlt : (sortI ts).length = ts.length := (sortI_perm ts).length_eq
  refine q_asgL4 (ev_var rfl) hcn fun H1 e1 => ?_
  refine q_asgN (en_ones (ts := (sortI ts).drop ((sortI ts).length - a.toNat)) (en_is (en_slN (en_srtI (ev_var rfl) (.inl (ex_l e1 hl))) (eo_some (ev_cb (ea_cons ev_c (ea_cons (ev_op (ev_cb (ea_cons (ev_var rfl) ea_nil) (rc_len (.lst (ex_l e1 hl)))) (ev_var rfl) rv_I0) ea_nil)) rc_max2)) eo_none) ?_) ?_ (fun _ => rfl) (fun _ => rfl)) fun F H2 hF e2 h2 => ?_
  · rw [← cut_last2 a ha, List.length_map, hlt]
  · rw [List.length_drop]; omega
  generalize hrs : sortI ts = rs at nd' hz' h2 q hlt
  have hF0 : H F = none := fresh_back e1 hF
  have e02 := e1.trans e2
  refine q_forLX (K := K) (R := fun p xs H' => H' p = some (.lst xs) ∧ ∃ us : List Addr, xs = us.map V.ref ∧ Paired (fun (q : Addr) (w : List V) => SqT K H' q w) us [[.int b, .int 24], [.int c, .int 168], [.int d, .int 672]]) (EvX.imp (ex_lst3 (K := K) (ex_tup (by walk_at "ev") (by simp)) (ex_tup (by walk_at "ev") (by simp)) (ex_tup (by walk_at "ev") (by simp))) fun v H' _ ⟨p, us, r1, r2, r3⟩ => ⟨p, _, r1, sq_of r2, r2, us, rfl, r3⟩) ?_
  rintro p xs H3 e3 hp ⟨hp', us, rfl, hP⟩
  have hF3 : H3 F = some (.dK (tI (mrg [] (ones (rs.drop (rs.length - a.toNat)))))) := e3 _ _ h2
  have hpF : p ≠ F := fun z => by rw [z, hF3] at hp'; cases hp'
  refine ⟨fun i σ' H' => Ex H H' ∧ (∀ q xs, SqT K H3 q xs → SqT K H' q xs) ∧ H' p = some (.lst (us.map V.ref)) ∧ H' F = some (.dK (tI (mrg [] (ones (rs.drop (rs.length - a.toNat) ++ (([(b, 24), (c, 168), (d, 672)] : List (Int × Int)).take i).flatMap fun r => picks r.1 r.2 rs))))) ∧ ∃ u7 u8 u9 u10 u11, σ' = [some (.ref cn), some (.ref l), some (.int a), some (.int b), some (.int c), some (.int d), some (.ref F), u7, u8, u9, u10, u11],
    ⟨e02.trans e3, fun _ _ h => h, hp', by rw [hF3]; simp, _, _, _, _, _, rfl⟩, ?_, ?_, ?_⟩
  · rintro i σ' H' _ ⟨_, _, h, _⟩
    exact sq_of h
  · rintro i xv σ' H' hi ⟨e, hT, hp4, hF', u7, u8, u9, u10, u11, rfl⟩
    obtain ⟨q5, wv, rfl, hr, hq⟩ := ref_at hP hi
    obtain ⟨r, hr', hwv⟩ : ∃ r : Int × Int, ([(b, 24), (c, 168), (d, 672)] : List (Int × Int))[i]? = some r ∧ wv = [.int r.1, .int r.2] := by
      have z : ([[.int b, .int 24], [.int c, .int 168], [.int d, .int 672]] : List (List V)) = ([(b, 24), (c, 168), (d, 672)] : List (Int × Int)).map fun r => [V.int r.1, V.int r.2] := rfl
      rw [z, List.getElem?_map] at hr
      cases ez : ([(b, 24), (c, 168), (d, 672)] : List (Int × Int))[i]? with
      | none => rw [ez] at hr; cases hr
      | some r => rw [ez] at hr; cases hr; exact ⟨r, rfl, rfl⟩
    subst hwv
    have hr3 : 0 < r.2 ∧ r.2 < 1000 ∧ 0 ≤ r.1 := by
      have z := List.mem_of_getElem? hr'
      rcases List.mem_cons.mp z with rfl | z
      · exact ⟨by simp, by simp, hb⟩
      rcases List.mem_cons.mp z with rfl | z
      · exact ⟨by simp, by simp, hc0⟩
      · rw [List.mem_singleton.mp z]; exact ⟨by simp, by simp, hd⟩
    have htake : (([(b, 24), (c, 168), (d, 672)] : List (Int × Int)).take (i + 1)) = ([(b, 24), (c, 168), (d, 672)] : List (Int × Int)).take i ++ [r] := by
      obtain ⟨g1, g2⟩ := List.getElem?_eq_some_iff.mp hr'
      rw [List.take_succ_eq_append_getElem g1, g2]
    generalize hA : rs.drop (rs.length - a.toNat) ++ (([(b, 24), (c, 168), (d, 672)] : List (Int × Int)).take i).flatMap (fun r => picks r.1 r.2 rs) = A at hF'
    have hA2 : rs.drop (rs.length - a.toNat) ++ (([(b, 24), (c, 168), (d, 672)] : List (Int × Int)).take (i + 1)).flatMap (fun r => picks r.1 r.2 rs) = A ++ picks r.1 r.2 rs := by
      rw [htake, List.flatMap_append, ← List.append_assoc, hA]; simp
    have hAl : A.length ≤ 400 := by
      rw [← hA, List.length_append, List.length_drop]
      have p1 := picks_len b 24 rs
      have p2 := picks_len c 168 rs
      have hi3 : i < 3 := (List.getElem?_eq_some_iff.mp hr').1
      obtain rfl | rfl | rfl : i = 0 ∨ i = 1 ∨ i = 2 := by omega
      · simp; omega
      · simp; omega
      · simp; omega
    refine g_tup2 (hT _ _ hq) ?_
    refine q_asgN en_dnew fun La H4 hLa e4 h4 => ?_
    have hLF : La ≠ F := fun z => by rw [z, hF'] at hLa; cases hLa
    have hLp : La ≠ p := fun z => by rw [z, hp4] at hLa; cases hLa
    have hL0 : H La = none := fresh_back e hLa
    have ex4 := e.trans e4
    refine q_forN (K := K) (xs := rs.map V.int) (en_is (en_srtI (ev_var rfl) (.inl (ex_l ex4 hl))) (by rw [hrs])) (fun pl j σ'' H'' => Ex H H'' ∧ (∀ q xs, SqT K H3 q xs → SqT K H'' q xs) ∧ H'' p = some (.lst (us.map V.ref)) ∧ H'' F = some (.dK (tI (mrg [] (ones A)))) ∧ H'' La = some (.dK (tI (mrg [] ((rs.take j).map fun t => (t / r.2, t))))) ∧ pl ≠ La ∧ H'' pl = some (.lst (rs.map V.int)) ∧ ∃ u10 u11, σ'' = [some (.ref cn), some (.ref l), some (.int a), some (.int b), some (.int c), some (.int d), some (.ref F), some (.int r.1), some (.int r.2), some (.ref La), u10, u11]) ?_ ?_ ?_ ?_
    · intro pl H5 hpl e5 h5
      exact ⟨ex4.trans e5, fun q xs hq => ex_t (e4.trans e5) (hT q xs hq), e5 _ _ (e4 _ _ hp4), e5 _ _ (e4 _ _ hF'), e5 _ _ h4, (fun z => by rw [z, h4] at hpl; cases hpl), h5, _, _, rfl⟩
    · rintro pl j σ'' H'' _ ⟨_, _, _, _, _, _, h, _⟩
      exact sq_of h
    · rintro pl j y σ'' H'' hj ⟨ee, hTT, hpp, hFF, hLL, hpl, hpl2, u10, u11, rfl⟩
      obtain ⟨t, ht, hti, rfl⟩ := map_at' hj
      have hm := len_mrg ((rs.take j).map fun t => (t / r.2, t)) []
      rw [List.length_map, List.length_take, List.length_nil] at hm
      refine s_dput (k := .inl (t / r.2)) (v := .int t) (ev_var rfl) (ev_var rfl) (ev_op (ev_var rfl) (ev_var rfl) (rv_I ⟨hr3.1, by omega⟩)) hLL (by rw [en_len]; exact sz_lt (by omega)) fun H6 e6 => ?_
      refine ⟨Ex.mut (ee.trans e6) hL0, fun q xs hq => exb_t (exb_upd (exb_of (Ex.refl _))) (rd_of (e6 _ _ hLL)) (ex_t e6 (hTT q xs hq)), by rw [upd_ne (Ne.symm hLp)]; exact e6 _ _ hpp, by rw [upd_ne (Ne.symm hLF)]; exact e6 _ _ hFF, ?_, hpl, by rw [upd_ne hpl]; exact e6 _ _ hpl2, _, _, rfl⟩
      rw [upd_same, take_map_succ _ hti, mrg_snoc]
      exact congrArg (fun y => some (HO.dK y)) (en_put inl_inj' _ (t / r.2) t)
    · rintro pl σ'' H'' ⟨ee, hTT, hpp, hFF, hLL, _, _, u10, u11, rfl⟩
      rw [List.length_map, List.take_length] at hLL
      have hsp : mrg [] (rs.map fun t => (t / r.2, t)) = spansD r.2 rs := rfl
      rw [hsp] at hLL
      generalize hD : spansD r.2 rs = D at hLL
      have hlen : (tI D).length = (sortI (ks D)).length := by rw [en_len, (sortI_perm _).length_eq]; simp [ks]
      have hlen2 : D.length = (sortI (ks D)).length := by rw [← hlen, en_len]
      have hpk : picks r.1 r.2 rs = ((sortI (ks D)).drop ((sortI (ks D)).length - r.1.toNat)).map fun s => (lk D s).getD 0 := by
        unfold picks
        rw [hD, hlen2]
      have hDl : D.length ≤ 100 := by
        rw [← hD]
        have := spansD_len r.2 rs
        omega
      dsimp only
      have hDm : ∀ s ∈ sortI (ks D), ∃ t, lk D s = some t := fun s hs => mem_ks (mem_sortI.mp hs)
      generalize hsp2 : (sortI (ks D)).drop ((sortI (ks D)).length - r.1.toNat) = sp at hpk
      have hspm : ∀ s ∈ sp, ∃ t, lk D s = some t := fun s hs => hDm s (by rw [← hsp2] at hs; exact List.mem_of_mem_drop hs)
      have hspl : sp.length ≤ 100 := by rw [← hsp2, List.length_drop]; omega
      refine s_forN (K := K) (xs := sp.map V.int) (en_is (en_slN (en_srtDI (ev_var rfl) (rd_of hLL) (en_keys D)) (eo_some (ev_cb (ea_cons ev_c (ea_cons (ev_op (ev_cb (ea_cons (ev_var rfl) ea_nil) (rc_len (.dic (rd_of hLL)))) (ev_var rfl) rv_I0) ea_nil)) rc_max2)) eo_none) ?_) (fun p5 j σ'' H'' => Ex H H'' ∧ (∀ q xs, SqT K H3 q xs → SqT K H'' q xs) ∧ H'' p = some (.lst (us.map V.ref)) ∧ H'' F = some (.dK (tI (mrg [] (ones (A ++ (picks r.1 r.2 rs).take j))))) ∧ H'' La = some (.dK (tI D)) ∧ p5 ≠ F ∧ H'' p5 = some (.lst (sp.map V.int)) ∧ ∃ u10 u11, σ'' = [some (.ref cn), some (.ref l), some (.int a), some (.int b), some (.int c), some (.int d), some (.ref F), some (.int r.1), some (.int r.2), some (.ref La), u10, u11]) ?_ ?_ ?_ ?_
      · rw [hlen, cut_last2 r.1 hr3.2.2, hsp2]
      · intro p5 H5 hp5 e5 h5
        exact ⟨ee.trans e5, fun q xs hq => ex_t e5 (hTT q xs hq), e5 _ _ hpp, by rw [e5 _ _ hFF]; simp, e5 _ _ hLL, (fun z => by rw [z, hFF] at hp5; cases hp5), h5, _, _, rfl⟩
      · rintro p5 j σ'' H5 _ ⟨_, _, _, _, _, _, h, _⟩
        exact sq_of h
      · rintro p5 j y σ'' H5 hj ⟨e5, hT5, hp6, hF5, hL5, hpF5, hp5, u10, u11, rfl⟩
        obtain ⟨s5, hs5, hsi, rfl⟩ := map_at' hj
        obtain ⟨t, ht⟩ := hspm s5 hs5
        have hpj : (picks r.1 r.2 rs)[j]? = some t := by rw [hpk, List.getElem?_map, hsi]; show some ((lk D s5).getD 0) = _; rw [ht]; rfl
        have hm := len_mrg (ones (A ++ (picks r.1 r.2 rs).take j)) []
        have hpl := picks_len r.1 r.2 rs
        rw [List.length_nil] at hm
        have hol : (ones (A ++ (picks r.1 r.2 rs).take j)).length ≤ 600 := by unfold ones; rw [List.length_map, List.length_append, List.length_take]; omega
        refine s_dput (k := .inl t) (v := .int 1) ev_c (ev_var rfl) (ev_dget (k := .inl s5) (ev_var rfl) (ev_var rfl) (rd_of hL5) (by rw [en_look inl_inj', ht]; rfl)) hF5 (by rw [en_len]; exact sz_lt (by omega)) fun H6 e6 => ?_
        refine ⟨Ex.mut (e5.trans e6) hF0, fun q xs hq => exb_t (exb_upd (exb_of (Ex.refl _))) (rd_of (e6 _ _ hF5)) (ex_t e6 (hT5 q xs hq)), by rw [upd_ne hpF]; exact e6 _ _ hp6, ?_, by rw [upd_ne hLF]; exact e6 _ _ hL5, hpF5, by rw [upd_ne hpF5]; exact e6 _ _ hp5, _, _, rfl⟩
        obtain ⟨g1, g2⟩ := List.getElem?_eq_some_iff.mp hpj
        have hfin : ∀ B : List Int, mrg [] (ones (B ++ [t])) = pu (mrg [] (ones B)) t 1 := fun B => by rw [ones_app B [t], mrg_append]; rfl
        rw [upd_same, List.take_succ_eq_append_getElem g1, g2, ← List.append_assoc, hfin]
        exact congrArg (fun y => some (HO.dK y)) (en_put inl_inj' _ t 1)
      · rintro p5 σ'' H5 ⟨e5, hT5, hp6, hF5, hL5, hpF5, hp5, u10, u11, rfl⟩
        have hpl : (picks r.1 r.2 rs).length = sp.length := by rw [hpk, List.length_map]
        rw [List.length_map, ← hpl, List.take_length, ← hA2] at hF5
        exact ⟨e5, hT5, hp6, hF5, _, _, _, _, _, rfl⟩
  · rintro σ' H' ⟨e, hT, hp4, hF', u7, u8, u9, u10, u11, rfl⟩
    have hul : us.length = 3 := Paired.length hP
    rw [List.length_map, hul] at hF'
    have hst : mrg [] (ones (rs.drop (rs.length - a.toNat) ++ (([(b, 24), (c, 168), (d, 672)] : List (Int × Int)).take 3).flatMap fun r => picks r.1 r.2 rs)) = stayD a b c d rs := by
      unfold stayD
      simp [List.append_assoc]
    rw [hst] at hF'
    refine s_retN (en_is (en_lc (α := Int) (as := rs) (b := fun t => decide (t ∉ ks (stayD a b c d rs))) (f := V.int) (lc_N rs V.int _ _ (en_is (en_srtI (ev_var rfl) (.inl (ex_l e hl))) (by rw [hrs])) (by omega) (fun _ => rfl) m_val ?_ ?_)) ?_) fun p5 H5 hp5 e5 h5 => q p5 H5 (fresh_back e hp5) (e.trans e5) h5
    · intro t H4 ht e4
      refine et_is (et_B (ev_dnotin (k := .inl t) (ev_var rfl) (ev_var rfl) (ex_rd e4 (rd_of hF')))) ?_
      rw [en_look inl_inj', Option.isSome_map, lk_isSome]
      by_cases z : t ∈ ks (stayD a b c d rs) <;> simp [z]
    · intro t H4 ht _ e4
      exact ev_x (ev_var rfl)
    · unfold goesL; rw [hrs]
end
end Kw


set_option Elab.async false
set_option linter.all false
set_option maxRecDepth 100000
set_option maxHeartbeats 4000000
/-! Law3: the law's own cut. -/
namespace Kw
open PySem PySem.Spec PyProof.Rows L2 Evl
local macro_rules
  | `(tactic| walk_at "hp") => `(tactic| first
      | exact prp (by assumption)
      | exact rfl
      | exact upd_same
      | ((with_reducible apply sq_of); first | assumption | exact upd_same)
      | ((with_reducible apply st_of); first | assumption | exact upd_same)
      | ((with_reducible apply rd_of); first | assumption | exact upd_same)
      | ((with_reducible apply ex_l); assumption; walk_at "hp")
      | ((with_reducible apply ex_t); assumption; walk_at "hp")
      | ((with_reducible apply ex_rd); assumption; walk_at "hp")
      | ((with_reducible apply ex_at); assumption; walk_at "hp")
      | ((with_reducible apply Or.inl); walk_at "hp")
      | ((with_reducible apply Or.inr); walk_at "hp")
      | ((with_reducible apply LenD.lst); walk_at "hp")
      | ((with_reducible apply LenD.tup); walk_at "hp")
      | ((with_reducible apply LenD.dic); walk_at "hp")
      | ((with_reducible apply LenD.str); walk_at "hp")
      | ((with_reducible apply mulR); decide)
      | ((with_reducible apply mulL); decide)
      | decide
      | omega)
local macro_rules
  | `(tactic| walk_at "ev") => `(tactic| ((fail_if_success (with_reducible apply ev_bad)); (fail_if_success (with_reducible apply et_bad)); (fail_if_success (with_reducible apply ea_bad)); (fail_if_success (with_reducible apply en_bad)); first
      | ((with_reducible apply ev_var); exact rfl)
      | (with_reducible exact ev_c)
      | (with_reducible exact ea_nil)
      | (with_reducible exact eo_none)
      | ((with_reducible apply eo_some) <;> try walk_at "ev")
      | ((with_reducible apply ea_cons) <;> try walk_at "ev")
      | ((with_reducible apply ev_inTup) <;> try walk_at "ev")
      | ((with_reducible apply ev_niTup) <;> try walk_at "ev")
      | ((with_reducible apply ev_ixP) <;> try walk_at "ev")
      | (with_reducible exact rv_isN)
      | (with_reducible exact rv_notN)
      | ((with_reducible apply ev_op) <;> try walk_at "ev")
      | (with_reducible exact rv_I0)
      | ((with_reducible apply rv_I) <;> try walk_at "hp")
      | ((with_reducible apply rv_eq); exact rfl)
      | ((with_reducible apply rv_ne); exact rfl)
      | ((with_reducible apply rv_addS) <;> try walk_at "hp")
      | ((with_reducible apply rv_ixL); walk_at "hp"; walk_at "hp")
      | ((with_reducible apply rv_ixT); walk_at "hp"; walk_at "hp")
      | ((with_reducible apply ev_cb) <;> try walk_at "ev")
      | ((with_reducible apply rc_len); walk_at "hp")
      | (with_reducible exact rc_ord)
      | ((with_reducible apply rc_str) <;> try walk_at "hp")
      | (with_reducible exact rc_int)
      | (with_reducible exact rc_intB)
      | (with_reducible exact rc_abs)
      | (with_reducible exact rc_max2)
      | (with_reducible exact rc_min2)
      | ((with_reducible apply ev_joinN) <;> try walk_at "ev")
      | ((with_reducible apply ev_m1) <;> try walk_at "ev")
      | ((with_reducible apply rm_strip) <;> try walk_at "hp")
      | (with_reducible exact rm_starts)
      | ((with_reducible apply rm_join) <;> try walk_at "hp")
      | ((with_reducible apply ev_slS) <;> try walk_at "ev")
      | ((with_reducible apply ev_dget) <;> try walk_at "ev")
      | ((with_reducible apply ev_din) <;> try walk_at "ev")
      | ((with_reducible apply ev_dnotin) <;> try walk_at "ev")
      | ((with_reducible apply ev_fld) <;> try walk_at "ev")
      | ((with_reducible apply et_test) <;> try walk_at "ev")
      | ((with_reducible apply et_B) <;> try walk_at "ev")
      | ((with_reducible apply et_and) <;> try walk_at "ev")
      | ((with_reducible apply et_or) <;> try walk_at "ev")
      | ((with_reducible apply et_not) <;> try walk_at "ev")
      | (with_reducible exact en_dnew)
      | (with_reducible exact et_yes)
      | ((with_reducible apply ex_tup) <;> try walk_at "ev")
      | ((with_reducible apply en_slL) <;> try walk_at "ev")
      | ((with_reducible apply en_split) <;> try walk_at "ev")
      | ((with_reducible apply en_part) <;> try walk_at "ev")
      | walk_at "hp"
      | ((with_reducible refine fun hb => ?_); try walk_at "ev")))
local macro_rules
  | `(tactic| walk_at "lcf") => `(tactic| first
      | (intro _ _ _ _ _; exact rfl)
      | (intro _ _ _ _ _; dsimp only [Cx.blk]; done)
      | (intro _ _ _ _ _; dsimp only [Cx.blk]; exact rfl))
section
variable {σ : L2.St} {H : Hp} {te : TE} {K : PySem.W.Frag}
theorem en_cat {ta tb : TE} {l : Addr} {xs zs : List V} (h1 : Ev ta σ H (.ref l)) (hl : H l = some (.lst xs)) (h2 : EvN tb σ H (.lst zs)) (hz : xs.length + zs.length ≤ 100000) : EvN (tOp rCat ta tb) σ H (.lst (xs ++ zs)) := fun H1 e Q q =>
  h1 H1 e _ fun H2 e2 => h2 H2 (e.trans e2) _ fun b H3 _ e3 hb => ⟨l, b, xs, zs, rfl, rfl, e3 _ _ (e2 _ _ (e _ _ hl)), hb, sz_of hz, fun p hp => q p _ (fresh_back (e2.trans e3) hp) ((e2.trans e3).trans (Ex.new hp)) upd_same⟩
theorem ev_sumN {ns : List Int} (h : EvN te σ H (.lst (ns.map V.int))) : Ev (tCB (rSum K) (tCons te tNil)) σ H (.int ns.sum) := fun H1 e Q q => h H1 e _ fun p H2 _ e2 hp => ⟨p, ns, rfl, sq_of hp, q H2 e2⟩
end
section
variable {P : Program} {w : World} {K : PySem.W.Frag} {mg : Str → Option Value} {base : Heap} {k : Nat}
def sLawCut : List V → Hp → HO → Prop := fun vs _ o => ∃ x : Str, vs = [.str x] ∧ x.length ≤ 1000 ∧ o = .lst ((cutsS x).map V.str)
theorem mono_lawcut : Mono sLawCut := fun _ _ _ _ _ h => h
theorem law_cut_ok (T : Md K mg base) (hk : 1 ≤ k) : CallOk P w K mg base k "_law_cut" ["text"] (spN sLawCut) := by
  obtain ⟨k, rfl⟩ : ∃ j, k = j + 1 := ⟨k - 1, by omega⟩
  refine T.d_law_cut.ok (N := ["text", "found", "here", "sign", "one"]) sc_law_cut (by rintro vs H Q E ⟨o, ⟨x, rfl, -⟩, -⟩; rfl) ?_
  rintro f cdv A outer s H vs Q E hr ⟨o, ⟨x, rfl, hx, rfl⟩, q⟩
  refine ⟨_, (pss_cons (ps_par (i := 1) (j := 2) rfl sc_law_cut.nd rfl rfl (by decide) rfl rfl (pa_cons (pe_lst pa_nil) (pa_cons pe_str pa_nil)) (by rfl))
    (pss_cons (ps_for PassesOwn.never rfl (pi_str (pv 0)) (pg_name (i := 3) sc_law_cut.nd rfl (Or.inl rfl))
      (pss_cons (ps_set (i := 2) sc_law_cut.nd rfl (Or.inl rfl) (pe_op op_add_str (pv 2) (pv 3)))
      (pss_one (ps_if (PW.pt (pw_or (pt_cmpR op_eq (b_len T.b (pa_cons (pv 2) pa_nil)) pe_int (nomark _)) (pw_or1 (PW.pt (pw_and (pt_cmpR op_ge (b_len T.b (pa_cons (pv 2) pa_nil)) pe_int (nomark _)) (pw_and1 (pt_cmpR op_eq (pe_op op_mod (b_sum T.b (pa_cons (pe_lcF (own := [("one", 4)]) rfl sc_law_cut.nd (pi_str (pe_slice sl_str (pv 2) (po_some (pe_op op_sub (b_len T.b (pa_cons (pv 2) pa_nil)) pe_int)) po_none)) (blkOk_by (own := [("one", 4)]) (N := ["text", "found", "here", "sign", "one"]) (sc := defScope st_law_cut) (by decide +kernel)) (fun _ _ _ _ _ => (by exact (pg_name (i := 4) sc_law_cut.nd rfl (Or.inl rfl)))) (fun _ _ _ _ _ => (by exact pts_nil)) (fun _ _ _ _ _ => (by exact (b_ord T.b (pa_cons (pv 4) pa_nil)))) (by walk_at "lcf") (by walk_at "lcf") (by walk_at "lcf")) pa_nil)) pe_int) pe_int (nomark _)))))))) (pss_cons (ps_expr (pe_bm PySem.F.plainAttrs_list PySem.F.slot_list_append PySem.F.type_list_append mt_append (pv 1) (pa_cons (pv 2) pa_nil)))
        (pss_one (ps_set (i := 2) sc_law_cut.nd rfl (Or.inl rfl) pe_str))) pss_nil))))
    (pss_one (ps_ret (pe_op op_cat (pv 1) (pe_ifExp (pt_cmpR op_ne (pv 2) pe_str (nomark _)) (pe_lst (pa_cons (pv 2) pa_nil)) (pe_lst pa_nil))))))), ?_⟩
  have hlen := len_tl' x
  refine q_parN en_lst0 ev_c fun F H1 hF e1 h1 => ?_
  refine q_forS (a := x) (ev_var rfl) (fun i σ' H' => i ≤ (TL.tl x).length ∧ Ex H H' ∧ H' F = some (.lst ((cutN (TL.tl x) i).1.map fun l => V.str (mkS l))) ∧ ∃ u v, σ' = [some (.str x), some (.ref F), some (.str (mkS (((TL.tl x).take i).drop (cutN (TL.tl x) i).2))), u, v]) ?_ ?_ ?_
  · intro H2 e2
    exact ⟨Nat.zero_le _, e1.trans e2, e2 _ _ h1, _, _, rfl⟩
  · rintro i c σ' H' hi ⟨hil, e, hF', u, v, rfl⟩
    obtain ⟨hlt, hce⟩ := List.getElem?_eq_some_iff.mp hi
    have hc1 := (cutN_le (TL.tl x) i).1
    have hc2 := (cutN_le (TL.tl x) i).2
    have step : (cutN (TL.tl x) (i + 1)) = stp (TL.tl x) (cutN (TL.tl x) i) (i + 1) := rfl
    generalize hs0 : (cutN (TL.tl x) i).2 = s0 at hc1
    have hh : mkS (((TL.tl x).take i).drop s0) ++ (⟨#[c]⟩ : Str) = mkS (((TL.tl x).take (i + 1)).drop s0) := by
      refine TL.ext_tl ?_
      rw [TL.tl_append, tl_mkS, tl_mkS, List.take_succ_eq_append_getElem hlt, hce, List.drop_append_of_le_length (by rw [List.length_take]; omega)]
    have hl1 : (mkS (((TL.tl x).take i).drop s0)).length ≤ 1000 := by rw [len_tl', tl_mkS, List.length_drop, List.length_take]; omega
    have hc1' : (⟨#[c]⟩ : Str).length = 1 := rfl
    have hz0 : (mkS (((TL.tl x).take i).drop s0)).length + (⟨#[c]⟩ : Str).length ≤ sizeLine := sz_of (by omega)
    refine q_asg (ev_is (ev_op (ev_var rfl) (ev_var rfl) (rv_addS hz0)) (congrArg V.str hh)) fun H2 e2 => ?_
    generalize hhere : mkS (((TL.tl x).take (i + 1)).drop s0) = here
    have hhl : here.length = i + 1 - s0 := by rw [← hhere, len_tl', tl_mkS, List.length_drop, List.length_take]; omega
    have hzh : here.length ≤ sizeLine := sz_of (by omega)
    refine s_when (b := cutAt (TL.tl x) s0 (i + 1)) (et_is (et_or (b := decide (4 ≤ i + 1 - s0) && decide (win (TL.tl x) (i + 1 - 3) % 5 = 0)) (a := decide (i + 1 - s0 = 12)) (et_is (by walk_at "ev") ?_) fun _ => et_and (et_is (by walk_at "ev") ?_) fun hb => ?_) rfl) (fun hb H3 e3 => ?_) fun hb H3 e3 => ?_
    · rw [hhl]
      by_cases z : i + 1 - s0 = 12
      · rw [z]; rfl
      · rw [decide_eq_false z]
        exact decide_eq_false fun y => z (by have y' := V.int.inj y; omega)
    · rw [hhl]
      by_cases z : 4 ≤ i + 1 - s0
      · rw [decide_eq_true z]; exact decide_eq_true (by omega)
      · rw [decide_eq_false z]; exact decide_eq_false (by omega)
    · rw [decide_eq_true_eq] at hb
      have e30 : V.int ((here.length : Int) - 3) = V.int ((i + 1 - s0 - 3 : Nat) : Int) := by congr 1; omega
      have ecut : TL.tl (cutS here (some ((i + 1 - s0 - 3 : Nat) : Int)) none) = ((TL.tl x).drop (i + 1 - 3)).take 3 := by
        rw [cutS_from, ← hhere, tl_mkS, List.drop_drop, List.drop_take]
        congr 1
        · omega
        · congr 1; omega
      have esum : (((TL.tl (cutS here (some ((i + 1 - s0 - 3 : Nat) : Int)) none))).map fun c : Nat => (c : Int)).sum = win (TL.tl x) (i + 1 - 3) := by rw [ecut]; rfl
      have hcl : (TL.tl (cutS here (some ((i + 1 - s0 - 3 : Nat) : Int)) none)).length ≤ 90000 := by rw [ecut, List.length_take]; omega
      refine et_is (b := decide (V.int (win (TL.tl x) (i + 1 - 3) % 5) = V.int 0)) (et_test (ev_op (ev_op (ev_is (ev_sumN (en_is (en_lcT (α := Nat) (f := fun c => V.int (c : Int)) (lc_S _ _ (ev_slS (ev_var rfl) (eo_some (ev_is (ev_op (ev_cb (ea_cons (ev_var rfl) ea_nil) (rc_len (.str hzh))) ev_c rv_I0) e30)) eo_none hzh) hcl (fun _ => rfl) m_val (fun _ _ _ _ => et_yes) fun c' H3 _ _ _ => ev_x (ev_cb (ea_cons (ev_var rfl) ea_nil) rc_ord))) (by rw [List.map_map]; rfl))) (congrArg V.int esum)) ev_c (rv_I (by decide))) ev_c (rv_eq rfl))) ?_
      by_cases z : win (TL.tl x) (i + 1 - 3) % 5 = 0
      · rw [z]; rfl
      · rw [decide_eq_false z]; exact decide_eq_false fun y => z (by have y' := V.int.inj y; omega)
    · refine q_app (e3 _ _ (e2 _ _ hF')) (by walk_at "ev") (ev_var rfl) (by rw [List.length_map]; omega) fun H4 e4 => ?_
      refine s_asg (v := .str "") ev_c fun H5 e5 => ⟨by omega, (Ex.mut (((e.trans e2).trans e3).trans e4) hF).trans e5, ?_, some (.str ⟨#[c]⟩), v, ?_⟩
      · rw [e5 _ _ upd_same, step]
        unfold stp
        rw [hs0, if_pos hb, List.map_append, ← hhere]
        rfl
      · rw [step]
        unfold stp
        rw [hs0, if_pos hb]
        have z : mkS (((TL.tl x).take (i + 1)).drop (i + 1)) = "" := by
          refine TL.ext_tl ?_
          rw [tl_mkS, List.drop_of_length_le (by rw [List.length_take]; omega)]
          decide
        show _ = [_, _, some (V.str (mkS (((TL.tl x).take (i + 1)).drop (i + 1)))), _, _]
        rw [z]
        rfl
    · refine ⟨by omega, (e.trans e2).trans e3, ?_, some (.str ⟨#[c]⟩), v, ?_⟩
      · rw [e3 _ _ (e2 _ _ hF'), step]
        unfold stp
        rw [hs0, if_neg (by rw [hb]; decide)]
      · rw [step]
        unfold stp
        rw [hs0, if_neg (by rw [hb]; decide), hs0, hhere]
        rfl
  · rintro σ' H' ⟨_, e, hF', u, v, rfl⟩
    rw [List.take_length]
    have hc1 := (cutN_le (TL.tl x) (TL.tl x).length).1
    have hc2 := (cutN_le (TL.tl x) (TL.tl x).length).2
    refine s_retN (en_is (en_cat (zs := if (cutN (TL.tl x) (TL.tl x).length).2 < (TL.tl x).length then [V.str (mkS ((TL.tl x).drop (cutN (TL.tl x) (TL.tl x).length).2))] else []) (ev_var rfl) hF' (en_if (b := decide ((cutN (TL.tl x) (TL.tl x).length).2 < (TL.tl x).length)) (et_is (by walk_at "ev") ?_) (fun hb => en_is (en_lst (ea_cons (ev_var rfl) ea_nil) (by simp)) ?_) (fun hb => en_is en_lst0 ?_)) ?_) ?_) fun p H4 hp4 e4 h4 => q p H4 (fresh_back e hp4) (e.trans e4) h4
    · by_cases z : (cutN (TL.tl x) (TL.tl x).length).2 < (TL.tl x).length
      · rw [decide_eq_true z]
        have ne : ¬ V.str (mkS ((TL.tl x).drop (cutN (TL.tl x) (TL.tl x).length).2)) = V.str "" := fun y => by
          have y2 := congrArg (fun w => match w with | V.str w => (TL.tl w).length | _ => 0) y
          simp only [tl_mkS, List.length_drop] at y2
          rw [show (TL.tl ("" : Str)).length = 0 from by decide] at y2
          omega
        rw [decide_eq_false ne]; rfl
      · rw [decide_eq_false z]
        have eq : mkS ((TL.tl x).drop (cutN (TL.tl x) (TL.tl x).length).2) = "" := by
          refine TL.ext_tl ?_
          rw [tl_mkS, List.drop_of_length_le (by omega)]
          decide
        rw [eq]; simp
    · rw [decide_eq_true_eq] at hb; rw [if_pos hb]
    · rw [decide_eq_false_iff_not] at hb; rw [if_neg hb]
    · rw [List.length_map]
      by_cases z : (cutN (TL.tl x) (TL.tl x).length).2 < (TL.tl x).length
      · rw [if_pos z, List.length_singleton]; omega
      · rw [if_neg z, List.length_nil]; omega
    · unfold cutsS cuts
      rw [List.map_map, List.map_append]
      split <;> rfl
end
end Kw


set_option Elab.async false
set_option linter.all false
set_option maxRecDepth 100000
set_option maxHeartbeats 4000000
/-! Nee: needs: what is reached. -/
namespace Kw
open PySem PySem.Spec PyProof.Rows L2 Evl
local macro_rules
  | `(tactic| walk_at "hp") => `(tactic| first
      | exact prp (by assumption)
      | exact rfl
      | exact upd_same
      | ((with_reducible apply sq_of); first | assumption | exact upd_same)
      | ((with_reducible apply st_of); first | assumption | exact upd_same)
      | ((with_reducible apply rd_of); first | assumption | exact upd_same)
      | ((with_reducible apply ex_l); assumption; walk_at "hp")
      | ((with_reducible apply ex_t); assumption; walk_at "hp")
      | ((with_reducible apply ex_rd); assumption; walk_at "hp")
      | ((with_reducible apply ex_at); assumption; walk_at "hp")
      | ((with_reducible apply Or.inl); walk_at "hp")
      | ((with_reducible apply Or.inr); walk_at "hp")
      | ((with_reducible apply LenD.lst); walk_at "hp")
      | ((with_reducible apply LenD.tup); walk_at "hp")
      | ((with_reducible apply LenD.dic); walk_at "hp")
      | ((with_reducible apply LenD.str); walk_at "hp")
      | ((with_reducible apply mulR); decide)
      | ((with_reducible apply mulL); decide)
      | decide
      | omega)
local macro_rules
  | `(tactic| walk_at "ev") => `(tactic| ((fail_if_success (with_reducible apply ev_bad)); (fail_if_success (with_reducible apply et_bad)); (fail_if_success (with_reducible apply ea_bad)); (fail_if_success (with_reducible apply en_bad)); first
      | ((with_reducible apply ev_var); exact rfl)
      | (with_reducible exact ev_c)
      | (with_reducible exact ea_nil)
      | (with_reducible exact eo_none)
      | ((with_reducible apply eo_some) <;> try walk_at "ev")
      | ((with_reducible apply ea_cons) <;> try walk_at "ev")
      | ((with_reducible apply ev_inTup) <;> try walk_at "ev")
      | ((with_reducible apply ev_niTup) <;> try walk_at "ev")
      | ((with_reducible apply ev_ixP) <;> try walk_at "ev")
      | (with_reducible exact rv_isN)
      | (with_reducible exact rv_notN)
      | ((with_reducible apply ev_op) <;> try walk_at "ev")
      | (with_reducible exact rv_I0)
      | ((with_reducible apply rv_I) <;> try walk_at "hp")
      | ((with_reducible apply rv_eq); exact rfl)
      | ((with_reducible apply rv_ne); exact rfl)
      | ((with_reducible apply rv_addS) <;> try walk_at "hp")
      | ((with_reducible apply rv_ixL); walk_at "hp"; walk_at "hp")
      | ((with_reducible apply rv_ixT); walk_at "hp"; walk_at "hp")
      | ((with_reducible apply ev_cb) <;> try walk_at "ev")
      | ((with_reducible apply rc_len); walk_at "hp")
      | (with_reducible exact rc_ord)
      | ((with_reducible apply rc_str) <;> try walk_at "hp")
      | (with_reducible exact rc_int)
      | (with_reducible exact rc_intB)
      | (with_reducible exact rc_abs)
      | (with_reducible exact rc_max2)
      | (with_reducible exact rc_min2)
      | ((with_reducible apply ev_joinN) <;> try walk_at "ev")
      | ((with_reducible apply ev_m1) <;> try walk_at "ev")
      | ((with_reducible apply rm_strip) <;> try walk_at "hp")
      | (with_reducible exact rm_starts)
      | ((with_reducible apply rm_join) <;> try walk_at "hp")
      | ((with_reducible apply ev_slS) <;> try walk_at "ev")
      | ((with_reducible apply ev_dget) <;> try walk_at "ev")
      | ((with_reducible apply ev_din) <;> try walk_at "ev")
      | ((with_reducible apply ev_dnotin) <;> try walk_at "ev")
      | ((with_reducible apply ev_fld) <;> try walk_at "ev")
      | ((with_reducible apply et_test) <;> try walk_at "ev")
      | ((with_reducible apply et_B) <;> try walk_at "ev")
      | ((with_reducible apply et_and) <;> try walk_at "ev")
      | ((with_reducible apply et_or) <;> try walk_at "ev")
      | ((with_reducible apply et_not) <;> try walk_at "ev")
      | (with_reducible exact en_dnew)
      | (with_reducible exact et_yes)
      | ((with_reducible apply ex_tup) <;> try walk_at "ev")
      | ((with_reducible apply en_slL) <;> try walk_at "ev")
      | ((with_reducible apply en_split) <;> try walk_at "ev")
      | ((with_reducible apply en_part) <;> try walk_at "ev")
      | walk_at "hp"
      | ((with_reducible refine fun hb => ?_); try walk_at "ev")))
local macro_rules
  | `(tactic| walk_at "lcf") => `(tactic| first
      | (intro _ _ _ _ _; exact rfl)
      | (intro _ _ _ _ _; dsimp only [Cx.blk]; done)
      | (intro _ _ _ _ _; dsimp only [Cx.blk]; exact rfl))
/-- the names that a piece names -/
def kidsOf (x : Str) : List Str := if (TL.tl x).take 1 = TL.tl ("t" : Str) then (rowsL (mkS ((TL.tl x).drop 1))).map Prod.snd else if (TL.tl x).take 1 = TL.tl ("l" : Str) then wordsL (mkS ((TL.tl x).drop 1)) else []
inductive Reach (S : Tb) (a : Str) : Str → Prop
  | refl : Reach S a a
  | step {b c x : Str} (h : Reach S a b) (hx : lk S b = some x) (hc : c ∈ kidsOf x) : Reach S a c
/-- the size of what hangs under a name, and that all of it stands -/
def rl : Nat → Tb → Str → Nat
  | 0, _, _ => 0
  | n + 1, S, nm => 1 + ((kidsOf ((lk S nm).getD "")).map (rl n S)).sum
def Dpt : Nat → Tb → Str → Prop
  | 0, _, _ => False
  | n + 1, S, nm => ∃ x, lk S nm = some x ∧ ∀ k ∈ kidsOf x, Dpt n S k
theorem rl_pos {n : Nat} {S : Tb} {nm : Str} (h : Dpt n S nm) : 1 ≤ rl n S nm := by
  cases n with
  | zero => exact h.elim
  | succ n => unfold rl; omega
theorem dpt_lk {n : Nat} {S : Tb} {nm : Str} (h : Dpt n S nm) : ∃ x, lk S nm = some x := by
  cases n with
  | zero => exact h.elim
  | succ n => exact let ⟨x, h, _⟩ := h; ⟨x, h⟩
section
variable {α : Type} {K : PySem.W.Frag} {σ : L2.St} {H : Hp} {ta tb tl te : TE} {tt : TT} {D : Ends} {tz : TS} {vs : List Nat}
/-- a, b = two new things -/
theorem q_parNN {i j : Nat} {o1 o2 : HO} (h1 : EvN ta σ H o1) (h2 : EvN tb σ H o2) (k : ∀ p q H1, H p = none → H q = none → p ≠ q → Ex H H1 → H1 p = some o1 → H1 q = some o2 → tz D ((σ.set i (some (.ref p))).set j (some (.ref q))) H1) : tSeq (tPar i j (tCons ta (tCons tb tNil))) tz D σ H :=
  h1 H (Ex.refl H) _ fun p H1 hp e1 g1 => h2 H1 e1 _ fun q H2 hq e2 g2 => ⟨_, _, rfl, k p q H2 hp (fresh_back e1 hq) (fun e => by rw [← e, g1] at hq; cases hq) (e1.trans e2) (e2 _ _ g1) g2⟩
/-- a comprehension over a tuple of pairs -/
theorem lc_T2 {i j : Nat} (as : List α) (e1 e2 : α → V) (b : α → Bool) (R : α → V → Hp → Prop) (h : EvX tl σ H (fun v H' => ∃ p ts, v = .ref p ∧ SqT K H' p (ts.map V.ref) ∧ Paired (fun (q : Addr) (a : α) => SqT K H' q [e1 a, e2 a]) ts as)) (hz : as.length ≤ 90000)
    (hw : ∀ x y, wipe (((wipe σ vs).set i (some x)).set j (some y)) vs = wipe σ vs) (m : ∀ a v H H', Vt H H' → R a v H → R a v H')
    (ht : ∀ a H1, a ∈ as → Ex H H1 → EvT tt (((wipe σ vs).set i (some (e1 a))).set j (some (e2 a))) H1 (b a)) (he : ∀ a H1, a ∈ as → b a = true → Ex H H1 → EvX te (((wipe σ vs).set i (some (e1 a))).set j (some (e2 a))) H1 (R a)) :
    EvP (tLc (iTup K tl) (gTup K 2 (gCons (gName i) (gCons (gName j) gNil))) tt te vs) σ H (Lc as b R) := fun H0 e Q q => h H0 e _ fun v H1 e1' hv => by
  obtain ⟨p, ts, rfl, hx, hP⟩ := hv
  refine ⟨p, rfl, ⟨_, hx⟩, fun L hL => ?_⟩
  have hl : ts.length = as.length := Paired.length hP
  refine lc_tup (xs := ts.map V.ref) (Cv H1 as b R L) (cv_0 hL) (fun i H' _ q => ex_t q.2.1 hx) (fun n x H' hi q => ?_) (fun H' g => ?_)
  · obtain ⟨y, a, rfl, ha, hq⟩ := ref_at hP hi
    have ha' := List.mem_of_getElem? ha
    refine g_tup2 (ex_t q.2.1 hq) ⟨hw _ _, ?_⟩
    exact cv_turn m hz q ha (ht a H1 ha' (e.trans e1')) fun hb => he a H1 ha' hb (e.trans e1')
  · rw [List.length_map, hl] at g
    obtain ⟨p1, p2, p3⟩ := cv_done g
    exact q L H' (fresh_back e1' p1) (e1'.trans p2) p3
/-- xs.pop() -/
theorem pop_use {to : TE} {l : Addr} {xs : List V} {v : V} {Q : VK} (h : Ev to σ H (.ref l)) (hl : H l = some (.lst (xs ++ [v]))) (q : ∀ H1, Ex H H1 → Q v (upd H1 l (.lst xs))) : tBM0 K "list" rPop to σ H Q :=
  h H (Ex.refl H) _ fun H1 e1 => ⟨.inl ⟨rfl, _, sq_of (e1 _ _ hl)⟩, l, xs ++ [v], v, rfl, rfl, e1 _ _ hl, by simp, by rw [List.dropLast_concat]; exact q H1 e1⟩
/-- xs += a new list -/
theorem s_extN {i : Nat} {l : Addr} {xs zs : List V} (hx : σ[i]? = some (some (.ref l))) (hl : H l = some (.lst xs)) (h : EvN te σ H (.lst zs)) (hz : xs.length + zs.length ≤ 100000) (k : ∀ H1, Ex H H1 → D.nx (σ.set i (some (.ref l))) (upd H1 l (.lst (xs ++ zs)))) : tAug i te rExt2 D σ H :=
  ⟨_, hx, h H (Ex.refl H) _ fun b H1 hb e1 g1 => ⟨l, b, xs, zs, rfl, rfl, e1 _ _ hl, g1, sz_of hz, k H1 e1⟩⟩
end
section
variable {P : Program} {w : World} {K : PySem.W.Frag} {mg : Str → Option Value} {base : Heap} {k : Nat}
abbrev tN (t : List (Str × Int)) : List (Key × V) := en Sum.inr V.int t
def spNeeds (C N : Addr) : Sp := fun vs H Q E => ∃ (st d : Addr) (S S0 : Tb) (nm : Str) (n : Nat), vs = [.ref st, .str nm] ∧ Sto C st d H S ∧ WF S ∧ WF S0 ∧ Grow S S0 ∧ Dpt n S0 nm ∧ rl n S0 nm ≤ 80000 ∧
  (∀ ns : List Str, ns.Nodup → (∀ a, a ∈ ns ↔ Reach S0 nm a) → (∀ a ∈ ns, ∃ x, lk S a = some x) → ∀ p H', H p = none → Ex H H' → H' p = some (.tup ((sortS ns).map V.str)) → Q (.ref p) H') ∧
  ((∃ a, Reach S0 nm a ∧ lk S a = none) → ∀ H', Ex H H' → E (.ref N) none H')
theorem needs_ok (T : Md K mg base) (hk : 5 ≤ k) : CallOk P w K mg base k "needs" ["store", "name"] (spNeeds T.C_Store T.NoSuch) := by
  obtain ⟨k, rfl⟩ : ∃ j, k = j + 1 := ⟨k - 1, by omega⟩
  refine T.d_needs.okX (N := ["store", "name", "found", "left", "here", "piece", "word", "inner"]) sc_needs (by rintro vs H Q E ⟨st, d, S, S0, nm, n, rfl, -⟩; rfl) ?_
  rintro f cdv A outer s H vs Q E hr ⟨st, d, S, S0, nm, n, rfl, ⟨⟨dx, hs⟩, hd⟩, wf, wf0, gr, hdp, hsz, q, qe⟩
  refine ⟨_, (pss_cons (ps_par (i := 2) (j := 3) rfl sc_needs.nd rfl rfl (by decide) rfl rfl (pa_cons pe_dnewK (pa_cons (pe_lst (pa_cons (pv 1) pa_nil)) pa_nil)) (by rfl))
    (pss_cons (ps_while (passes_of rfl) (pt_cmpR (op_neP (hu64_of hr)) (pv 3) (pe_lst pa_nil) (nomark _))
      (pss_cons (ps_set (i := 4) sc_needs.nd rfl (Or.inl rfl) (pe_bm0 PySem.F.plainAttrs_list PySem.F.slot_list_pop PySem.F.type_list_pop mt_pop (pv 3)))
      (pss_one (ps_if (pt_cmp (pc_dnotin (hu_of hr) (pv 4) (pv 2))) (pss_cons (ps_dput (hu_of hr) (pv 2) (pv 4) pe_int rfl)
        (pss_cons (ps_set (i := 5) sc_needs.nd rfl (Or.inl rfl) (pe_mX T.cl_Store (Store_get_ok T (by omega)) hr (passes_call (takes_of rfl rfl rfl rfl) fun _ _ _ _ z => z) (pv 0) (pa_cons (pv 4) pa_nil)))
        (Evl.pss_cut (ps_if (pt_cmpR op_eq (pe_slice sl_str (pv 5) po_none (po_some pe_int)) pe_str (nomark _)) (pss_one (ps_aug (i := 3) sc_needs.nd rfl (Or.inl rfl) (pe_lcF (own := [("word", 6), ("inner", 7)]) rfl sc_needs.nd (pi_tup (pe_cX (rows_of_ok T (by omega)) hr (by rfl) (passes_call (takes_of rfl rfl rfl rfl) fun _ _ _ _ z => z) (pa_cons (pv 0) (pa_cons (pv 4) pa_nil)))) (blkOk_by (own := [("word", 6), ("inner", 7)]) (N := ["store", "name", "found", "left", "here", "piece", "word", "inner"]) (sc := defScope st_needs) (by decide +kernel)) (fun _ _ _ _ _ => (by exact (pg_tup (n := 2) rfl (pgs_cons (pg_name (i := 6) sc_needs.nd rfl (Or.inl rfl)) (pgs_cons (pg_name (i := 7) sc_needs.nd rfl (Or.inl rfl)) pgs_nil))))) (fun _ _ _ _ _ => (by exact pts_nil)) (fun _ _ _ _ _ => (by exact (pv 7))) (by walk_at "lcf") (by walk_at "lcf") (by walk_at "lcf")) ip_addL)) pss_nil)
        (pss_one (ps_if (pt_cmpR op_eq (pe_slice sl_str (pv 5) po_none (po_some pe_int)) pe_str (nomark _)) (pss_one (ps_aug (i := 3) sc_needs.nd rfl (Or.inl rfl) (pe_c (words_of_ok T (by omega)) hr (by rfl) (pa_cons (pe_slice sl_str (pv 5) (po_some pe_int) po_none) pa_nil)) ip_addL)) pss_nil))))) pss_nil))))
    (pss_one (ps_ret (b_tupleL T.b (pa_cons (b_sortedD T.b (hu64_of hr) (pa_cons (pv 2) pa_nil)) pa_nil)))))), ?_⟩
  have hsd : st ≠ d := fun z => by rw [z, hd] at hs; cases hs
  refine q_parNN en_dnew (en_lst (by walk_at "ev") (by simp)) fun G L H1 hG hL hne e1 h1 h2 => ?_
  refine s_while' (fun m σ' H' => ∃ (t : List (Str × Int)) (ls : List (Nat × Str)), m = (ls.map fun p => rl p.1 S0 p.2).sum ∧ m ≤ 80000 ∧ Ex H H' ∧ H' G = some (.dK (tN t)) ∧ H' L = some (.lst (ls.map fun p => V.str p.2)) ∧ (ks t).Nodup ∧ (∀ p ∈ ls, Dpt p.1 S0 p.2 ∧ Reach S0 nm p.2) ∧
      (∀ k ∈ ks t, Reach S0 nm k ∧ ∃ x, lk S k = some x ∧ ∀ c ∈ kidsOf x, c ∈ ks t ∨ c ∈ ls.map Prod.snd) ∧ (nm ∈ ks t ∨ nm ∈ ls.map Prod.snd) ∧ ∃ u4 u5 u6 u7, σ' = [some (.ref st), some (.str nm), some (.ref G), some (.ref L), u4, u5, u6, u7]) (rl n S0 nm)
    ⟨[], [(n, nm)], by simp, hsz, e1, h1, h2, by simp [ks], fun p hp => by rw [List.mem_singleton.mp hp]; exact ⟨hdp, .refl⟩, fun k hk => by simp [ks] at hk, .inr (by simp), _, _, _, _, rfl⟩ ?_
  rintro m σ' H' ⟨t, ls, rfl, hm, e, hG', hL', nd, hls, hks, hin, u4, u5, u6, u7, rfl⟩
  refine ⟨_, et_test (ev_neNil (ev_var rfl) (sq_of hL') (fun x hx => by obtain ⟨y, _, rfl⟩ := List.mem_map.mp hx; trivial)), fun hb H4 e4 => ?_, fun hb H4 e4 => ?_⟩
  · rcases List.eq_nil_or_concat ls with rfl | ⟨ls', p, hc⟩
    · simp at hb
    rw [List.concat_eq_append] at hc
    subst hc
    rw [List.map_append] at hL'
    refine q_asg_raw (pop_use (ev_var rfl) (e4 _ _ hL') fun H5 e5 => ?_)
    have hLG : L ≠ G := fun z => hne z.symm
    have hLn : H L = none := hL
    have eL : Ex H (upd H5 L (.lst (ls'.map fun p => V.str p.2))) := Ex.mut ((e.trans e4).trans e5) hLn
    have hG5 : (upd H5 L (.lst (ls'.map fun p => V.str p.2))) G = some (.dK (tN t)) := by rw [upd_ne (Ne.symm hLG)]; exact e5 _ _ (e4 _ _ hG')
    have hL5 : (upd H5 L (.lst (ls'.map fun p => V.str p.2))) L = some (.lst (ls'.map fun p => V.str p.2)) := upd_same
    generalize upd H5 L (.lst (ls'.map fun p => V.str p.2)) = H6 at eL hG5 hL5
    obtain ⟨hpd, hpr⟩ := hls p (by simp)
    have hrp := rl_pos hpd
    have hsum : ((ls' ++ [p]).map fun p => rl p.1 S0 p.2).sum = (ls'.map fun p => rl p.1 S0 p.2).sum + rl p.1 S0 p.2 := by simp
    rw [hsum] at hm
    refine s_when (b := !decide (p.2 ∈ ks t)) (et_is (et_B (ev_dnotin (k := .inr p.2) (ev_var rfl) (ev_var rfl) (rd_of hG5))) (by rw [en_look inr_inj', Option.isSome_map, lk_isSome])) (fun hb2 H7 e7 => ?_) (fun hb2 H7 e7 => ?_)
    · have hpt : p.2 ∉ ks t := by simpa using hb2
      obtain ⟨pn, here⟩ := p
      cases pn with
      | zero => exact hpd.elim
      | succ n' =>
      obtain ⟨x0, hx0, hk0⟩ := hpd
      have htl : t.length ≤ 90000 := by
        have z := nd_sub_len (xs := ks t) (ys := ks S) nd (fun k hk => let ⟨_, x, g, _⟩ := hks k hk; ks_mem (lk_mem g))
        have z2 := wf.few
        simp only [ks, List.length_map] at z
        omega
      refine q_dput (k := .inr here) (v := .int 1) ev_c (ev_var rfl) (ev_var rfl) (e7 _ _ hG5) (by rw [en_len]; exact sz_lt (by omega)) fun H8 e8 => ?_
      have hG9 : (upd H8 G (.dK (putK (tN t) (.inr here) (.int 1)))) G = some (.dK (tN (pu t here 1))) := by rw [upd_same]; exact congrArg (fun y => some (HO.dK y)) (en_put inr_inj' t here 1)
      have hL9 : (upd H8 G (.dK (putK (tN t) (.inr here) (.int 1)))) L = some (.lst (ls'.map fun p => V.str p.2)) := by rw [upd_ne hLG]; exact e8 _ _ (e7 _ _ hL5)
      have eH9 : Ex H (upd H8 G (.dK (putK (tN t) (.inr here) (.int 1)))) := Ex.mut ((eL.trans e7).trans e8) hG
      generalize upd H8 G (.dK (putK (tN t) (.inr here) (.int 1))) = H9 at hG9 hL9 eH9
      refine q_asg_raw (mt_use (vs := [.str here]) (ev_var rfl) (eH9 _ _ hs) rfl (by walk_at "ev") fun H10 e10 => ⟨st, d, S, here, rfl, Sto.ex (eH9.trans e10) ⟨⟨dx, hs⟩, hd⟩, wf, fun x hx H11 e11 => ?_, fun hx H11 e11 => qe ⟨here, hpr, hx⟩ H11 ((eH9.trans e10).trans e11)⟩)
      have ex0 : x0 = x := by have z := gr _ _ hx; rw [hx0] at z; exact Option.some.inj z
      subst ex0
      have eH11 := (eH9.trans e10).trans e11
      have hG11 := e11 _ _ (e10 _ _ hG9)
      have hL11 := e11 _ _ (e10 _ _ hL9)
      have hxl := wf.sz _ (lk_mem hx)
      have hzx : x0.length ≤ sizeLine := sz_of (Nat.le_trans hxl (by decide))
      have e3 : V.str (cutS x0 none (some 1)) = V.str (mkS ((TL.tl x0).take 1)) := by
        congr 1
        refine TL.ext_tl ?_
        rw [show (1 : Int) = ((1 : Nat) : Int) from rfl, cutS_to, tl_mkS]
      have hkm : ((kidsOf x0).map fun c => rl n' S0 c).sum + 1 = rl (n' + 1) S0 here := by
        show _ = 1 + ((kidsOf ((lk S0 here).getD "")).map (rl n' S0)).sum
        rw [hx0]
        exact Nat.add_comm _ _
      have hkl : (kidsOf x0).length ≤ ((kidsOf x0).map fun c => rl n' S0 c).sum := by
        have go : ∀ l : List Str, (∀ c ∈ l, Dpt n' S0 c) → l.length ≤ (l.map fun c => rl n' S0 c).sum := fun l => by
          induction l with
          | nil => intro _; exact Nat.zero_le _
          | cons c l ih =>
            intro h
            have g1 := rl_pos (h c (List.mem_cons_self ..))
            have g2 := ih fun y hy => h y (List.mem_cons_of_mem _ hy)
            simp only [List.map_cons, List.sum_cons, List.length_cons]
            omega
        exact go _ hk0
      have hll : ls'.length ≤ (ls'.map fun p => rl p.1 S0 p.2).sum := by
        have go : ∀ l : List (Nat × Str), (∀ q ∈ l, Dpt q.1 S0 q.2) → l.length ≤ (l.map fun q => rl q.1 S0 q.2).sum := fun l => by
          induction l with
          | nil => intro _; exact Nat.zero_le _
          | cons c l ih =>
            intro h
            have g1 := rl_pos (h c (List.mem_cons_self ..))
            have g2 := ih fun y hy => h y (List.mem_cons_of_mem _ hy)
            simp only [List.map_cons, List.sum_cons, List.length_cons]
            omega
        exact go _ fun q hq => (hls q (List.mem_append_left _ hq)).1
      have hm' : (ls'.map fun p => rl p.1 S0 p.2).sum + rl (n' + 1) S0 here ≤ 80000 := hm
      have hkb : ls'.length + (kidsOf x0).length ≤ 80000 := by omega
      generalize hT : decide (V.str (mkS ((TL.tl x0).take 1)) = V.str "t") = bT
      generalize hLb : decide (V.str (mkS ((TL.tl x0).take 1)) = V.str "l") = bL
      have hTl : bT = true → (TL.tl x0).take 1 = TL.tl ("t" : Str) := fun z => by
        rw [← hT, decide_eq_true_eq] at z
        have z2 := V.str.inj z
        rw [← z2, tl_mkS]
      have hTl' : bT = false → ¬ (TL.tl x0).take 1 = TL.tl ("t" : Str) := fun z y => by
        rw [← hT, decide_eq_false_iff_not] at z
        exact z (by rw [y, mkS_tl])
      have hLl : bL = true → (TL.tl x0).take 1 = TL.tl ("l" : Str) := fun z => by
        rw [← hLb, decide_eq_true_eq] at z
        have z2 := V.str.inj z
        rw [← z2, tl_mkS]
      have hLl' : bL = false → ¬ (TL.tl x0).take 1 = TL.tl ("l" : Str) := fun z y => by
        rw [← hLb, decide_eq_false_iff_not] at z
        exact z (by rw [y, mkS_tl])
      dsimp only
      refine q_cut (M := fun σ' H' => Ex H H' ∧ H' G = some (.dK (tN (pu t here 1))) ∧ H' L = some (.lst ((ls'.map fun p => V.str p.2) ++ (if bT = true then (kidsOf x0).map V.str else []))) ∧ ∃ u6 u7, σ' = [some (.ref st), some (.str nm), some (.ref G), some (.ref L), some (.str here), some (.str x0), u6, u7]) ?_ ?_
      · refine s_when (b := bT) (et_is (et_test (ev_op (ev_is (ev_slS (ev_var rfl) eo_none (eo_some ev_c) hzx) e3) ev_c (rv_eq rfl))) hT) (fun z H12 e12 => ?_) (fun z H12 e12 => ?_)
        · have hkt : kidsOf x0 = (rowsL (mkS ((TL.tl x0).drop 1))).map Prod.snd := by unfold kidsOf; rw [if_pos (hTl z)]
          refine s_extN (zs := (kidsOf x0).map V.str) rfl (e12 _ _ hL11) (en_is (en_lcT (α := Str × Str) (f := fun r => V.str r.2) (lc_T2 (rowsL (mkS ((TL.tl x0).drop 1))) (fun r => V.str r.1) (fun r => V.str r.2) _ _ ?_ ?_ (fun _ _ => rfl) m_val (fun _ _ _ _ => et_yes) fun r H13 _ _ _ => ev_x (ev_var rfl))) ?_) (by rw [List.length_map, List.length_map]; omega) fun H13 e13 => ?_
          · intro H13 e13 Q2 q2
            refine cl_use (vs := [.ref st, .str here]) (by walk_at "ev") fun H14 e14 => ⟨st, d, S, here, rfl, Sto.ex (((eH11.trans e12).trans e13).trans e14) ⟨⟨dx, hs⟩, hd⟩, wf, fun y hy => ?_, fun hy => by rw [hx] at hy; cases hy⟩
            rw [hx] at hy
            cases hy
            exact ⟨hTl z, fun p ts H15 hp15 e15 h15 hP => q2 _ H15 (e14.trans e15) ⟨p, ts, rfl, st_of h15, hP⟩⟩
          · have z2 : (rowsL (mkS ((TL.tl x0).drop 1))).length = (kidsOf x0).length := by rw [hkt, List.length_map]
            omega
          · rw [hkt, List.map_map]; rfl
          · refine ⟨Ex.mut ((eH11.trans e12).trans e13) hLn, by rw [upd_ne (Ne.symm hLG)]; exact e13 _ _ (e12 _ _ hG11), ?_, _, _, rfl⟩
            rw [upd_same, if_pos z]
        · exact ⟨eH11.trans e12, e12 _ _ hG11, by rw [e12 _ _ hL11, if_neg (by rw [z]; decide), List.append_nil], _, _, rfl⟩
      · rintro σ' H12 ⟨e12, hG12, hL12, u6, u7, rfl⟩
        have fin : ∀ H'', Ex H H'' → H'' G = some (.dK (tN (pu t here 1))) → H'' L = some (.lst ((ls'.map fun p => V.str p.2) ++ (kidsOf x0).map V.str)) → ∃ m', m' < ((ls' ++ [(n' + 1, here)]).map fun p => rl p.1 S0 p.2).sum ∧ ∃ (t2 : List (Str × Int)) (ls2 : List (Nat × Str)), m' = (ls2.map fun p => rl p.1 S0 p.2).sum ∧ m' ≤ 80000 ∧ Ex H H'' ∧ H'' G = some (.dK (tN t2)) ∧ H'' L = some (.lst (ls2.map fun p => V.str p.2)) ∧ (ks t2).Nodup ∧ (∀ p ∈ ls2, Dpt p.1 S0 p.2 ∧ Reach S0 nm p.2) ∧
            (∀ k ∈ ks t2, Reach S0 nm k ∧ ∃ x, lk S k = some x ∧ ∀ c ∈ kidsOf x, c ∈ ks t2 ∨ c ∈ ls2.map Prod.snd) ∧ (nm ∈ ks t2 ∨ nm ∈ ls2.map Prod.snd) := by
          intro H'' eh hg hl
          have hk2 : (((kidsOf x0).map fun c => (n', c)).map fun p : Nat × Str => rl p.1 S0 p.2).sum = ((kidsOf x0).map fun c => rl n' S0 c).sum := by rw [List.map_map]; rfl
          have hsn : ((kidsOf x0).map fun c => (n', c)).map Prod.snd = kidsOf x0 := by rw [List.map_map]; exact List.map_id _
          have hmem : ∀ c ∈ (ls' ++ [(n' + 1, here)]).map Prod.snd, c ∈ ks (pu t here 1) ∨ c ∈ (ls' ++ (kidsOf x0).map fun c => (n', c)).map Prod.snd := fun c hc => by
            rw [List.map_append] at hc ⊢
            rcases List.mem_append.mp hc with g | g
            · exact .inr (List.mem_append_left _ g)
            · rw [show c = here by simpa using g]
              exact .inl (mem_ks_pu.mpr (.inl rfl))
          refine ⟨(ls'.map fun p => rl p.1 S0 p.2).sum + ((kidsOf x0).map fun c => rl n' S0 c).sum, by rw [hsum]; show _ < _ + rl (n' + 1) S0 here; omega, pu t here 1, ls' ++ (kidsOf x0).map fun c => (n', c), ?_, by omega, eh, hg, ?_, nd_pu nd, ?_, ?_, ?_⟩
          · rw [List.map_append, List.sum_append, hk2]
          · rw [hl, List.map_append, List.map_map]; rfl
          · intro p hp
            rcases List.mem_append.mp hp with hp | hp
            · exact hls p (List.mem_append_left _ hp)
            · obtain ⟨c, hc, rfl⟩ := List.mem_map.mp hp
              exact ⟨hk0 c hc, .step hpr hx0 hc⟩
          · intro k hk
            rcases mem_ks_pu.mp hk with rfl | hk
            · refine ⟨hpr, x0, hx, fun c hc => .inr ?_⟩
              rw [List.map_append, hsn]
              exact List.mem_append_right _ hc
            · obtain ⟨g1, x, g2, g3⟩ := hks k hk
              refine ⟨g1, x, g2, fun c hc => ?_⟩
              rcases g3 c hc with g | g
              · exact .inl (mem_ks_pu.mpr (.inr g))
              · exact hmem c g
          · rcases hin with g | g
            · exact .inl (mem_ks_pu.mpr (.inr g))
            · exact hmem nm g
        have hcut : V.str (cutS x0 (some 1) none) = V.str (mkS ((TL.tl x0).drop 1)) := by
          congr 1
          refine TL.ext_tl ?_
          rw [show (1 : Int) = ((1 : Nat) : Int) from rfl, cutS_from, tl_mkS]
        refine s_when (b := bL) (et_is (et_test (ev_op (ev_is (ev_slS (ev_var rfl) eo_none (eo_some ev_c) hzx) e3) ev_c (rv_eq rfl))) hLb) (fun z H13 e13 => ?_) (fun z H13 e13 => ?_)
        · have hnt : ¬ bT = true := fun y => by
            have g1 := hTl y
            rw [hLl z] at g1
            revert g1; decide
          rw [if_neg hnt, List.append_nil] at hL12
          have hkw : kidsOf x0 = wordsL (mkS ((TL.tl x0).drop 1)) := by
            unfold kidsOf
            rw [if_neg (hTl' (by simpa using hnt)), if_pos (hLl z)]
          refine s_extN (zs := (kidsOf x0).map V.str) rfl (e13 _ _ hL12) (en_is (en_cl mono_words (ea_cons (ev_is (ev_slS (ev_var rfl) (eo_some ev_c) eo_none hzx) hcut) ea_nil) ⟨_, rfl, ?_, rfl⟩) (by rw [hkw])) (by rw [List.length_map, List.length_map]; omega) fun H14 e14 => ?_
          · have hx5 : x0.length ≤ 5000 := hxl
            rw [len_tl', tl_mkS, List.length_drop, ← len_tl']; omega
          · obtain ⟨m', f0, t2, ls2, f1, f2, f3, f4, f5, f6⟩ := fin (upd H14 L (.lst ((ls'.map fun p => V.str p.2) ++ (kidsOf x0).map V.str))) (Ex.mut ((e12.trans e13).trans e14) hLn) (by rw [upd_ne (Ne.symm hLG)]; exact e14 _ _ (e13 _ _ hG12)) upd_same
            obtain ⟨f6, f7, f8, f9⟩ := f6
            exact ⟨m', f0, t2, ls2, f1, f2, f3, f4, f5, f6, f7, f8, f9, _, _, _, _, rfl⟩
        · have hL13 : H13 L = some (.lst ((ls'.map fun p => V.str p.2) ++ (kidsOf x0).map V.str)) := by
            rw [e13 _ _ hL12]
            by_cases y : bT = true
            · rw [if_pos y]
            · have hkn : kidsOf x0 = [] := by
                unfold kidsOf
                rw [if_neg (hTl' (by simpa using y)), if_neg (hLl' z)]
              rw [if_neg y, hkn]; rfl
          obtain ⟨m', f0, t2, ls2, f1, f2, f3, f4, f5, f6, f7, f8, f9⟩ := fin H13 (e12.trans e13) (e13 _ _ hG12) hL13
          exact ⟨m', f0, t2, ls2, f1, f2, f3, f4, f5, f6, f7, f8, f9, _, _, _, _, rfl⟩
    · have hpt : p.2 ∈ ks t := by simpa using hb2
      refine ⟨(ls'.map fun p => rl p.1 S0 p.2).sum, by rw [hsum]; omega, t, ls', rfl, by omega, eL.trans e7, e7 _ _ hG5, e7 _ _ hL5, nd, fun q hq => hls q (List.mem_append_left _ hq), fun k hk => ?_, ?_, _, _, _, _, rfl⟩
      · obtain ⟨g1, x, g2, g3⟩ := hks k hk
        refine ⟨g1, x, g2, fun c hc => ?_⟩
        rcases g3 c hc with g | g
        · exact .inl g
        · rw [List.map_append] at g
          rcases List.mem_append.mp g with g | g
          · exact .inr g
          · rw [show c = p.2 by simpa using g]; exact .inl hpt
      · rcases hin with g | g
        · exact .inl g
        · rw [List.map_append] at g
          rcases List.mem_append.mp g with g | g
          · exact .inr g
          · rw [show nm = p.2 by simpa using g]; exact .inl hpt
  · have hnil : ls = [] := by
      cases ls with
      | nil => rfl
      | cons a r => simp at hb
    subst hnil
    have hreach : ∀ a, Reach S0 nm a → a ∈ ks t := fun a ha => by
      induction ha with
      | refl => exact hin.elim id fun z => by simp at z
      | step _ hx hc ih =>
        obtain ⟨_, x, g2, g3⟩ := hks _ ih
        have g4 := gr _ _ g2
        rw [hx] at g4
        cases g4
        exact (g3 _ hc).elim id fun z => by simp at z
    refine s_retN (en_tupN (en_srtDS (ks := ks t) (ev_var rfl) (ex_rd e4 (rd_of hG')) (en_keys t))) fun p H5 hp e5 h5 => q (ks t) nd (fun a => ⟨fun ha => (hks a ha).1, hreach a⟩) (fun a ha => let ⟨_, x, g, _⟩ := hks a ha; ⟨x, g⟩) p H5 (fresh_back (e.trans e4) hp) ((e.trans e4).trans e5) h5
end
end Kw


set_option Elab.async false
set_option linter.all false
set_option maxRecDepth 100000
set_option maxHeartbeats 4000000
/-! Day1: days: made, the last time, given back, kept. -/
namespace Kw
open PySem PySem.Spec PyProof.Rows L2 Evl
local macro_rules
  | `(tactic| walk_at "hp") => `(tactic| first
      | exact prp (by assumption)
      | exact rfl
      | exact upd_same
      | ((with_reducible apply sq_of); first | assumption | exact upd_same)
      | ((with_reducible apply st_of); first | assumption | exact upd_same)
      | ((with_reducible apply rd_of); first | assumption | exact upd_same)
      | ((with_reducible apply ex_l); assumption; walk_at "hp")
      | ((with_reducible apply ex_t); assumption; walk_at "hp")
      | ((with_reducible apply ex_rd); assumption; walk_at "hp")
      | ((with_reducible apply ex_at); assumption; walk_at "hp")
      | ((with_reducible apply Or.inl); walk_at "hp")
      | ((with_reducible apply Or.inr); walk_at "hp")
      | ((with_reducible apply LenD.lst); walk_at "hp")
      | ((with_reducible apply LenD.tup); walk_at "hp")
      | ((with_reducible apply LenD.dic); walk_at "hp")
      | ((with_reducible apply LenD.str); walk_at "hp")
      | ((with_reducible apply mulR); decide)
      | ((with_reducible apply mulL); decide)
      | decide
      | omega)
local macro_rules
  | `(tactic| walk_at "ev") => `(tactic| ((fail_if_success (with_reducible apply ev_bad)); (fail_if_success (with_reducible apply et_bad)); (fail_if_success (with_reducible apply ea_bad)); (fail_if_success (with_reducible apply en_bad)); first
      | ((with_reducible apply ev_var); exact rfl)
      | (with_reducible exact ev_c)
      | (with_reducible exact ea_nil)
      | (with_reducible exact eo_none)
      | ((with_reducible apply eo_some) <;> try walk_at "ev")
      | ((with_reducible apply ea_cons) <;> try walk_at "ev")
      | ((with_reducible apply ev_inTup) <;> try walk_at "ev")
      | ((with_reducible apply ev_niTup) <;> try walk_at "ev")
      | ((with_reducible apply ev_ixP) <;> try walk_at "ev")
      | (with_reducible exact rv_isN)
      | (with_reducible exact rv_notN)
      | ((with_reducible apply ev_op) <;> try walk_at "ev")
      | (with_reducible exact rv_I0)
      | ((with_reducible apply rv_I) <;> try walk_at "hp")
      | ((with_reducible apply rv_eq); exact rfl)
      | ((with_reducible apply rv_ne); exact rfl)
      | ((with_reducible apply rv_addS) <;> try walk_at "hp")
      | ((with_reducible apply rv_ixL); walk_at "hp"; walk_at "hp")
      | ((with_reducible apply rv_ixT); walk_at "hp"; walk_at "hp")
      | ((with_reducible apply ev_cb) <;> try walk_at "ev")
      | ((with_reducible apply rc_len); walk_at "hp")
      | (with_reducible exact rc_ord)
      | ((with_reducible apply rc_str) <;> try walk_at "hp")
      | (with_reducible exact rc_int)
      | (with_reducible exact rc_intB)
      | (with_reducible exact rc_abs)
      | (with_reducible exact rc_max2)
      | (with_reducible exact rc_min2)
      | ((with_reducible apply ev_joinN) <;> try walk_at "ev")
      | ((with_reducible apply ev_m1) <;> try walk_at "ev")
      | ((with_reducible apply rm_strip) <;> try walk_at "hp")
      | (with_reducible exact rm_starts)
      | ((with_reducible apply rm_join) <;> try walk_at "hp")
      | ((with_reducible apply ev_slS) <;> try walk_at "ev")
      | ((with_reducible apply ev_dget) <;> try walk_at "ev")
      | ((with_reducible apply ev_din) <;> try walk_at "ev")
      | ((with_reducible apply ev_dnotin) <;> try walk_at "ev")
      | ((with_reducible apply ev_fld) <;> try walk_at "ev")
      | ((with_reducible apply et_test) <;> try walk_at "ev")
      | ((with_reducible apply et_B) <;> try walk_at "ev")
      | ((with_reducible apply et_and) <;> try walk_at "ev")
      | ((with_reducible apply et_or) <;> try walk_at "ev")
      | ((with_reducible apply et_not) <;> try walk_at "ev")
      | (with_reducible exact en_dnew)
      | (with_reducible exact et_yes)
      | ((with_reducible apply ex_tup) <;> try walk_at "ev")
      | ((with_reducible apply en_slL) <;> try walk_at "ev")
      | ((with_reducible apply en_split) <;> try walk_at "ev")
      | ((with_reducible apply en_part) <;> try walk_at "ev")
      | walk_at "hp"
      | ((with_reducible refine fun hb => ?_); try walk_at "ev")))
local macro_rules
  | `(tactic| walk_at "lcf") => `(tactic| first
      | (intro _ _ _ _ _; exact rfl)
      | (intro _ _ _ _ _; dsimp only [Cx.blk]; done)
      | (intro _ _ _ _ _; dsimp only [Cx.blk]; exact rfl))
abbrev Tm := List (Int × Str)
abbrev tM (t : Tm) : List (Key × V) := en Sum.inl V.str t
/-- the days at dy: their store's rows S, their times ts -/
structure DayAt (CD CS dy st d tm : Addr) (H : Hp) (S : Tb) (ts : Tm) : Prop where
  day : ∃ dx, H dy = some (.ins CD dx [("store", .ref st), ("times", .ref tm)])
  sto : Sto CS st d H S
  tim : H tm = some (.dK (tM ts))
  ne : tm ≠ d
theorem DayAt.ex {CD CS dy st d tm : Addr} {H H' : Hp} {S : Tb} {ts : Tm} (e : Ex H H') (h : DayAt CD CS dy st d tm H S ts) : DayAt CD CS dy st d tm H' S ts :=
  ⟨let ⟨dx, g⟩ := h.day; ⟨dx, e _ _ g⟩, h.sto.ex e, e _ _ h.tim, h.ne⟩
section
variable {σ : L2.St} {H : Hp} {tl : TE} {D : Ends} {tz : TS} {N : Addr → Prop} {i : Nat} {S : Addr → Hp → Prop}
/-- name = [.. for k in d] -/
theorem q_asgUn (h : EvP (fun σ H Q => tl σ H fun v H' => unP N (Q v) H') σ H S) (k : ∀ p H1, H p = none → Ex H H1 → S p H1 → tz D (σ.set i (some (.ref p))) H1) : tSeq (fun D σ H => tAsg tl (gName i) (unD N D) σ H) tz D σ H := h H (Ex.refl H) _ fun p H1 hp e hs => k p H1 hp e hs
end
section
variable {P : Program} {w : World} {K : PySem.W.Frag} {mg : Str → Option Value} {base : Heap} {k : Nat}
def spDaysInit (CD CS : Addr) : Sp := fun vs H Q _ => ∃ dy dx, vs = [.ref dy] ∧ H dy = some (.ins CD dx []) ∧ ∀ st d tm H', H st = none → H d = none → H tm = none → Exb dy H H' → DayAt CD CS dy st d tm H' [] [] → Q .non H'
theorem Days_init_ok (T : Md K mg base) (hk : 3 ≤ k) : MakeOk P w K mg base T.C_Days k "Days" ["self"] [] (spDaysInit T.C_Days T.C_Store) := by
  obtain ⟨k, rfl⟩ : ∃ j, k = j + 2 := ⟨k - 2, by omega⟩
  refine T.k_Days.ok (N := ["self"]) sc_Days___init__ (by rintro vs H Q E ⟨dy, dx, rfl, -⟩; rfl) ?_
  rintro f cdv A outer s H vs Q E hr ⟨dy, dx, rfl, hy, q⟩
  refine ⟨_, (pss_cons (ps_fld (pv 0) (pe_k0 (Store_init_ok T (by omega)) hr (by rfl)) rfl)
    (pss_one (ps_fld (pv 0) pe_dnewK rfl))), ?_⟩
  have hc := T.cl_Days
  refine sq (s_fld_raw fun x dx2 hx hdx hne => ?_)
  have e0 : Ex H (upd (upd H dx2 (.own x)) x (.ins T.C_Store dx2 [])) := (Ex.new hdx).trans (Ex.new (by rw [upd_ne (Ne.symm hne)]; exact hx))
  refine ⟨x, dx2, rfl, upd_same, fun d H1 hd e1 h1 h2 => ⟨rfl, _, rfl, ?_⟩⟩
  have nxy : dy ≠ x := fun z => by rw [z, hx] at hy; cases hy
  have hy1 : H1 dy = some (.ins T.C_Days dx []) := e1 _ _ nxy (e0 _ _ hy)
  refine ⟨dy, T.C_Days, dx, [], rfl, hy1, hc, T.na_Days_store, by decide, ?_⟩
  have hd0 : H d = none := fresh_back e0 hd
  have eb1 : Exs [dy, x] H (upd H1 dy (.ins T.C_Days dx (putF "store" (.ref x) []))) := exs_upd ((exs_of e0).trans (exs_b e1 (by simp))) (by simp)
  have ndy : d ≠ dy := fun z => by rw [z, hy] at hd0; cases hd0
  generalize hH2 : upd H1 dy (.ins T.C_Days dx (putF "store" (.ref x) [])) = H2 at eb1
  have hy2 : H2 dy = some (.ins T.C_Days dx [("store", .ref x)]) := by rw [← hH2, upd_same]; rfl
  have hs2 : H2 x = some (.ins T.C_Store dx2 [("pieces", .ref d)]) := by rw [← hH2, upd_ne (Ne.symm nxy)]; exact h1
  have hd2 : H2 d = some (.dK []) := by rw [← hH2, upd_ne ndy]; exact h2
  refine s_fldN (D := { nx := _, rt := _ }) en_dnew (ev_var rfl) hy2 hc T.na_Days_times (by simp) fun tm H3 htm e3 h3 => ?_
  have ntd : tm ≠ d := fun z => by rw [z, hd2] at htm; cases htm
  have nty : tm ≠ dy := fun z => by rw [z, hy2] at htm; cases htm
  have htm0 : H tm = none := by
    have nx : tm ∉ [dy, x] := by simp; exact ⟨nty, fun z => by rw [z, hs2] at htm; cases htm⟩
    exact eb1.none nx htm
  have hfin : Exs [dy, x] H (upd H3 dy (.ins T.C_Days dx (putF "times" (.ref tm) [("store", .ref x)]))) := exs_upd (eb1.then e3) (by simp)
  have hfin2 : Exb dy H (upd H3 dy (.ins T.C_Days dx (putF "times" (.ref tm) [("store", .ref x)]))) := fun a o ha ho => hfin a o (by simp; exact ⟨ha, fun z => by rw [z, hx] at ho; cases ho⟩) ho
  refine q x d tm _ hx hd0 htm0 hfin2 ⟨⟨dx, by rw [upd_same]; rfl⟩, ⟨⟨dx2, by rw [upd_ne (Ne.symm nxy)]; exact e3 _ _ hs2⟩, by rw [upd_ne ndy]; exact e3 _ _ hd2⟩, by rw [upd_ne nty]; exact h3, ntd⟩
/-- the last time of those at or ahead of t -/
def LastT (ns : List Int) (t m : Int) : Prop := m ∈ ns ∧ m ≤ t ∧ ∀ a ∈ ns, a ≤ t → a ≤ m
def spLastAt (CD N : Addr) : Sp := fun vs H Q E => ∃ (dy st tm dx : Addr) (ts : Tm) (t : Int), vs = [.ref dy, .int t] ∧ H dy = some (.ins CD dx [("store", .ref st), ("times", .ref tm)]) ∧ Rd H tm (.dK (tM ts)) ∧ ts.length ≤ 1000 ∧
  (∀ m, LastT (ks ts) t m → ∀ H', Ex H H' → Q (.int m) H') ∧ ((∀ a ∈ ks ts, ¬ a ≤ t) → ∀ H', Ex H H' → E (.ref N) none H')
theorem Days_last_at_ok (T : Md K mg base) (hk : 1 ≤ k) : MethOk P w K mg base T.C_Days k "last_at" ["self", "time"] (spLastAt T.C_Days T.NoSuch) := by
  obtain ⟨k, rfl⟩ : ∃ j, k = j + 1 := ⟨k - 1, by omega⟩
  refine T.md_Days_last_at.okX (N := ["self", "time", "good", "one"]) sc_Days_last_at (by rintro vs H Q E ⟨dy, st, tm, dx, ts, t, rfl, -⟩; rfl) ?_
  rintro f cdv A outer s H vs Q E hr ⟨dy, st, tm, dx, ts, t, rfl, hy, htm, hl, q, qe⟩
  refine ⟨_, (pss_cons (ps_un (ps_setLcF (own := [("one", 3)]) (i := 2) rfl sc_Days_last_at.nd rfl rfl (sw_true rfl rfl rfl (by decide +kernel)) (pi_keys (pe_lkA (pe_fld (pv 0) rfl))) (blkOk_by (own := [("one", 3)]) (N := ["self", "time", "good", "one"]) (sc := defScope st_Days_last_at) (by decide +kernel)) (fun _ _ _ _ _ => (by exact (pg_name (i := 3) sc_Days_last_at.nd rfl (Or.inl rfl)))) (fun _ _ _ _ _ => (by exact (pts_one (pt_cmpR op_le (pv 3) (pv 1) (nomark _))))) (fun _ _ _ _ _ => (by exact (pv 3))) (by walk_at "lcf") (by walk_at "lcf") (by walk_at "lcf")))
    (pss_cons (ps_if (pt_cmpR (op_eqP (hu64_of hr)) (pv 2) (pe_lst pa_nil) (nomark _)) (pss_one (ps_raise rfl (takes_of rfl rfl rfl rfl) (pmk_own PySem.F.excBase_ValueError T.x_NoSuch T.g_NoSuch T.kp_NoSuch (raises_own T.b_NoSuch T.t_NoSuch) (by exact rfl)))) pss_nil)
    (pss_one (ps_ret (b_maxL T.b (pa_cons (pv 2) pa_nil)))))), ?_⟩
  have hc := T.cl_Days
  have hn := T.na_Days_times
  refine q_asgUn (N := NF _) (i := 2) (lc_D (ka := Sum.inl) (vb := V.str) (fun d => d = tm) ts (fun r => decide (r.1 ≤ t)) (fun r v _ => v = V.int r.1) (ev_x (ev_fld (ev_var rfl) hy hc hn rfl) |>.imp fun v H' e' hv => ⟨tm, hv, rfl, ex_rd e' htm⟩) (by omega) (fun _ => rfl) m_val ?_) fun G H1 hG e1 h1 => ?_
  · rintro d' H2 B od rfl e2 l r hr2
    exact ⟨et_test (ev_op (ev_var rfl) (ev_var rfl) rv_I0), fun _ => ev_x (ev_var rfl)⟩
  have hG1 : H1 G = some (.lst (((ks ts).filter fun a => decide (a ≤ t)).map V.int)) := by
    have z := lc_val h1
    rw [z]
    unfold ks
    rw [List.filter_map, List.map_map]
    rfl
  generalize hgo : (ks ts).filter (fun a => decide (a ≤ t)) = go at hG1
  have hmem : ∀ a, a ∈ go ↔ a ∈ ks ts ∧ a ≤ t := fun a => by rw [← hgo, List.mem_filter, decide_eq_true_eq]
  refine q_when (b := go.isEmpty) (et_is (et_test (ev_eqNil (ev_var rfl) (sq_of hG1) (flat_ints' go))) (by cases go <;> rfl)) (fun hb H2 e2 => ?_) fun hb H2 e2 => ?_
  · refine qe (fun a ha hle => ?_) H2 (e1.trans e2)
    have z := (hmem a).mpr ⟨ha, hle⟩
    rw [List.isEmpty_iff.mp hb] at z
    cases z
  · refine s_retX (ex_maxL (ev_var rfl) (ex_l e2 (sq_of hG1)) (by cases go with | nil => cases hb | cons a r => simp)) fun v H3 e3 ⟨m, hv, hm, hmax⟩ => ?_
    subst hv
    exact q m ⟨((hmem m).mp hm).1, ((hmem m).mp hm).2, fun a ha hle => hmax a ((hmem a).mpr ⟨ha, hle⟩)⟩ H3 ((e1.trans e2).trans e3)
def spGive (CD CS N P0 : Addr) : Sp := fun vs H Q E => ∃ (dy st d tm : Addr) (S : Tb) (ts : Tm) (Fs : Int → Tb) (t : Int), vs = [.ref dy, .int t] ∧ DayAt CD CS dy st d tm H S ts ∧ WF S ∧ Tab P0 H ∧ ts.length ≤ 1000 ∧ (∀ m nm, lk ts m = some nm → FolOk 4 (Fs m) ∧ FolAt 4 S (Fs m) nm) ∧
  (∀ m, LastT (ks ts) t m → ∀ p H', H p = none → Ex H H' → H' p = some (.dK (tD (can (Fs m)))) → Q (.ref p) H') ∧ ((∀ a ∈ ks ts, ¬ a ≤ t) → ∀ H', Ex H H' → E (.ref N) none H')
theorem Days_give_ok (T : Md K mg base) (hk : 11 ≤ k) : MethOk P w K mg base T.C_Days k "give" ["self", "time"] (spGive T.C_Days T.C_Store T.NoSuch T.P0) := by
  obtain ⟨k, rfl⟩ : ∃ j, k = j + 1 := ⟨k - 1, by omega⟩
  refine T.md_Days_give.okX (N := ["self", "time"]) sc_Days_give (by rintro vs H Q E ⟨dy, st, d, tm, S, ts, Fs, t, rfl, -⟩; rfl) ?_
  rintro f cdv A outer s H vs Q E hr ⟨dy, st, d, tm, S, ts, Fs, t, rfl, da, wf, tab, hl, hF, q, qe⟩
  refine ⟨_, (pss_one (ps_ret (pe_c (get_folder_ok T 4 _ (by omega)) hr (by rfl) (pa_cons (pe_fld (pv 0) rfl) (pa_cons (pe_dget (hu_of hr) (pe_fld (pv 0) rfl) (pe_mX T.cl_Days (Days_last_at_ok T (by omega)) hr (passes_call (takes_of rfl rfl rfl rfl) fun _ _ _ _ z => z) (pv 0) (pa_cons (pv 1) pa_nil)) (fun _ _ => rfl)) pa_nil))))), ?_⟩
  obtain ⟨dx, hy⟩ := da.day
  have hc := T.cl_Days
  refine ⟨.ref dy, rfl, dy, T.C_Days, dx, _, .ref st, rfl, hy, hc, T.na_Days_store, rfl, .ref dy, rfl, dy, T.C_Days, dx, _, .ref tm, rfl, hy, hc, T.na_Days_times, rfl, ?_⟩
  refine ⟨.ref dy, rfl, dy, dx, _, rfl, hy, rfl, .int t, rfl, dy, st, tm, dx, ts, t, rfl, hy, rd_of da.tim, hl, fun m hm H1 e1 => ?_, qe⟩
  obtain ⟨nm, hnm⟩ := mem_ks hm.1
  obtain ⟨f1, f2⟩ := hF m nm hnm
  refine ⟨tm, .str nm, rfl, ?_, ?_⟩
  · have z := dget_of (k := .inl m) (ex_rd e1 (rd_of da.tim))
    rw [en_look inl_inj', hnm] at z
    exact z
  · exact ⟨_, ⟨st, d, S, Fs m, nm, rfl, da.sto.ex e1, wf, f1, f2, tab.ex e1, rfl⟩, fun p H2 hp e2 h2 => q m hm p H2 (fresh_back e1 hp) (e1.trans e2) h2⟩
end
end Kw


set_option Elab.async false
set_option linter.all false
set_option maxRecDepth 100000
set_option maxHeartbeats 4000000
/-! Day2: days: kept, left out. -/
namespace Kw
open PySem PySem.Spec PyProof.Rows L2 Evl
local macro_rules
  | `(tactic| walk_at "hp") => `(tactic| first
      | exact prp (by assumption)
      | exact rfl
      | exact upd_same
      | ((with_reducible apply sq_of); first | assumption | exact upd_same)
      | ((with_reducible apply st_of); first | assumption | exact upd_same)
      | ((with_reducible apply rd_of); first | assumption | exact upd_same)
      | ((with_reducible apply ex_l); assumption; walk_at "hp")
      | ((with_reducible apply ex_t); assumption; walk_at "hp")
      | ((with_reducible apply ex_rd); assumption; walk_at "hp")
      | ((with_reducible apply ex_at); assumption; walk_at "hp")
      | ((with_reducible apply Or.inl); walk_at "hp")
      | ((with_reducible apply Or.inr); walk_at "hp")
      | ((with_reducible apply LenD.lst); walk_at "hp")
      | ((with_reducible apply LenD.tup); walk_at "hp")
      | ((with_reducible apply LenD.dic); walk_at "hp")
      | ((with_reducible apply LenD.str); walk_at "hp")
      | ((with_reducible apply mulR); decide)
      | ((with_reducible apply mulL); decide)
      | decide
      | omega)
local macro_rules
  | `(tactic| walk_at "ev") => `(tactic| ((fail_if_success (with_reducible apply ev_bad)); (fail_if_success (with_reducible apply et_bad)); (fail_if_success (with_reducible apply ea_bad)); (fail_if_success (with_reducible apply en_bad)); first
      | ((with_reducible apply ev_var); exact rfl)
      | (with_reducible exact ev_c)
      | (with_reducible exact ea_nil)
      | (with_reducible exact eo_none)
      | ((with_reducible apply eo_some) <;> try walk_at "ev")
      | ((with_reducible apply ea_cons) <;> try walk_at "ev")
      | ((with_reducible apply ev_inTup) <;> try walk_at "ev")
      | ((with_reducible apply ev_niTup) <;> try walk_at "ev")
      | ((with_reducible apply ev_ixP) <;> try walk_at "ev")
      | (with_reducible exact rv_isN)
      | (with_reducible exact rv_notN)
      | ((with_reducible apply ev_op) <;> try walk_at "ev")
      | (with_reducible exact rv_I0)
      | ((with_reducible apply rv_I) <;> try walk_at "hp")
      | ((with_reducible apply rv_eq); exact rfl)
      | ((with_reducible apply rv_ne); exact rfl)
      | ((with_reducible apply rv_addS) <;> try walk_at "hp")
      | ((with_reducible apply rv_ixL); walk_at "hp"; walk_at "hp")
      | ((with_reducible apply rv_ixT); walk_at "hp"; walk_at "hp")
      | ((with_reducible apply ev_cb) <;> try walk_at "ev")
      | ((with_reducible apply rc_len); walk_at "hp")
      | (with_reducible exact rc_ord)
      | ((with_reducible apply rc_str) <;> try walk_at "hp")
      | (with_reducible exact rc_int)
      | (with_reducible exact rc_intB)
      | (with_reducible exact rc_abs)
      | (with_reducible exact rc_max2)
      | (with_reducible exact rc_min2)
      | ((with_reducible apply ev_joinN) <;> try walk_at "ev")
      | ((with_reducible apply ev_m1) <;> try walk_at "ev")
      | ((with_reducible apply rm_strip) <;> try walk_at "hp")
      | (with_reducible exact rm_starts)
      | ((with_reducible apply rm_join) <;> try walk_at "hp")
      | ((with_reducible apply ev_slS) <;> try walk_at "ev")
      | ((with_reducible apply ev_dget) <;> try walk_at "ev")
      | ((with_reducible apply ev_din) <;> try walk_at "ev")
      | ((with_reducible apply ev_dnotin) <;> try walk_at "ev")
      | ((with_reducible apply ev_fld) <;> try walk_at "ev")
      | ((with_reducible apply et_test) <;> try walk_at "ev")
      | ((with_reducible apply et_B) <;> try walk_at "ev")
      | ((with_reducible apply et_and) <;> try walk_at "ev")
      | ((with_reducible apply et_or) <;> try walk_at "ev")
      | ((with_reducible apply et_not) <;> try walk_at "ev")
      | (with_reducible exact en_dnew)
      | (with_reducible exact et_yes)
      | ((with_reducible apply ex_tup) <;> try walk_at "ev")
      | ((with_reducible apply en_slL) <;> try walk_at "ev")
      | ((with_reducible apply en_split) <;> try walk_at "ev")
      | ((with_reducible apply en_part) <;> try walk_at "ev")
      | walk_at "hp"
      | ((with_reducible refine fun hb => ?_); try walk_at "ev")))
local macro_rules
  | `(tactic| walk_at "lcf") => `(tactic| first
      | (intro _ _ _ _ _; exact rfl)
      | (intro _ _ _ _ _; dsimp only [Cx.blk]; done)
      | (intro _ _ _ _ _; dsimp only [Cx.blk]; exact rfl))
section
variable {K : PySem.W.Frag} {σ : L2.St} {H : Hp} {ta tb td ty tv : TE} {x y z : V} {D : Ends} {tz : TS}
theorem ev_opX {r : R2} {R : V → Hp → Prop} (ha : Ev ta σ H x) (hb : EvX tb σ H R) (hr : ∀ y H', Ex H H' → R y H' → RV r x y H' z) : Ev (tOp r ta tb) σ H z := fun H1 e Q q =>
  ha H1 e _ fun H2 e2 => hb H2 (e.trans e2) _ fun y H3 e3 hy => hr y H3 ((e.trans e2).trans e3) hy H3 (Ex.refl _) Q fun H4 e4 => q H4 ((e2.trans e3).trans e4)
/-- d[k] = e, where e changes the heap -/
theorem s_dput_raw (h : tv σ H fun v H1 => td σ H1 fun x H2 => ty σ H2 fun y H3 => ∃ (d : Addr) (kvs : List (Key × V)) (k : Key), x = .ref d ∧ y = kV k ∧ H3 d = some (.dK kvs) ∧ kvs.length < sizeLine ∧ D.nx σ (upd H3 d (.dK (putK kvs k v)))) (m : ∀ (Q Q' : VK), (∀ v H1, Q v H1 → Q' v H1) → tv σ H Q → tv σ H Q') (m2 : ∀ H1 (Q Q' : VK), (∀ v H1, Q v H1 → Q' v H1) → td σ H1 Q → td σ H1 Q') (m3 : ∀ H1 (Q Q' : VK), (∀ v H1, Q v H1 → Q' v H1) → ty σ H1 Q → ty σ H1 Q') : sDPut td ty tv D σ H :=
  m _ _ (fun v H1 h1 => m2 H1 _ _ (fun x H2 h2 => m3 H2 _ _ (fun y H3 h3 => by
    obtain ⟨d, kvs, k, hx, hy, hd, hz, q⟩ := h3
    subst hx hy
    exact ⟨d, _, rfl, DPut.k hd hz, q⟩) h2) h1) h
/-- d.pop(k, e), as a statement -/
theorem s_dpop {tx : TE} {d : Addr} {kvs : List (Key × V)} {k : Key} {v : V} (hd : Ev td σ H (.ref d)) (hk : Ev ty σ H (kV k)) (hz : Ev tx σ H z) (ho : H d = some (.dK kvs)) (hv : valV kvs k = some v) (q : ∀ H1, Ex H H1 → D.nx σ (upd H1 d (.dK (dropK kvs k)))) : tDrop (tDPop2 td ty tx) D σ H :=
  hd H (Ex.refl H) _ fun H1 e1 => ⟨d, rfl, .inl ⟨kvs, rd_of (e1 _ _ ho)⟩, hk H1 e1 _ fun H2 e2 => hz H2 (e1.trans e2) _ fun H3 e3 => ⟨kvs, k, e3 _ _ (e2 _ _ (e1 _ _ ho)), rfl, fun w hw => q H3 ((e1.trans e2).trans e3), fun hn => by rw [hv] at hn; cases hn⟩⟩
end
section
variable {P : Program} {w : World} {K : PySem.W.Frag} {mg : Str → Option Value} {base : Heap} {k : Nat}
def spKeep (CD CS P0 : Addr) : Sp := fun vs H Q _ => ∃ (dy st d tm tb : Addr) (S F : Tb) (ts : Tm) (t : Int), vs = [.ref dy, .int t, .ref tb] ∧ DayAt CD CS dy st d tm H S ts ∧ Rd H tb (.dK (tD F)) ∧ TbOk F ∧ FolOk 4 (can F) ∧ Tab P0 H ∧ WF S ∧ S.length + cst 4 (can F) ≤ 89000 ∧ (∀ x ∈ ks ts, x < t) ∧ ts.length ≤ 1000 ∧
  ∀ nm S' H', WF S' → Grow S S' → S'.length ≤ S.length + cst 4 (can F) → FolAt 4 S' (can F) nm → (∀ m, FolAt 4 S (can F) m → S' = S) → Exs [d, tm] H H' → DayAt CD CS dy st d tm H' S' (ts ++ [(t, nm)]) → Q (.int ((S'.length : Int) - (S.length : Int))) H'
theorem Days_keep_ok (T : Md K mg base) (hk : 10 ≤ k) : MethOk P w K mg base T.C_Days k "keep" ["self", "time", "table"] (spKeep T.C_Days T.C_Store T.P0) := by
  obtain ⟨k, rfl⟩ : ∃ j, k = j + 1 := ⟨k - 1, by omega⟩
  refine T.md_Days_keep.ok (N := ["self", "time", "table", "folder", "before"]) sc_Days_keep (by rintro vs H Q E ⟨dy, st, d, tm, tb, S, F, ts, t, rfl, -⟩; rfl) ?_
  rintro f cdv A outer s H vs Q E hr ⟨dy, st, d, tm, tb, S, F, ts, t, rfl, da, htb, ok, fok, tab, wf, hl, hlt, htl, q⟩
  refine ⟨_, (pss_cons (ps_set (i := 3) sc_Days_keep.nd rfl (Or.inl rfl) (pe_c (check_folder_ok T (by omega)) hr (by rfl) (pa_cons (pv 2) pa_nil)))
    (pss_cons (ps_if (PW.pt (pw_and (pt_cmpR (op_neM (hu64_of hr)) (pe_fld (pv 0) rfl) pe_dnewK (nomark _)) (pw_and1 (pt_cmpR op_le (pv 1) (b_maxD T.b (pa_cons (pe_fld (pv 0) rfl) pa_nil)) (nomark _))))) (pss_one ps_never) pss_nil)
    (pss_cons (ps_set (i := 4) sc_Days_keep.nd rfl (Or.inl rfl) (b_lenD T.b (pa_cons (pe_fld (pe_fld (pv 0) rfl) rfl) pa_nil)))
    (pss_cons (ps_dput (hu_of hr) (pe_fld (pv 0) rfl) (pv 1) (pe_c (put_folder_ok T 4 _ (by omega)) hr (by rfl) (pa_cons (pe_fld (pv 0) rfl) (pa_cons (pv 3) pa_nil))) rfl)
    (pss_one (ps_ret (pe_op op_sub (b_lenD T.b (pa_cons (pe_fld (pe_fld (pv 0) rfl) rfl) pa_nil)) (pv 4)))))))), ?_⟩
  obtain ⟨dx, hy⟩ := da.day
  obtain ⟨⟨dx2, hs⟩, hd⟩ := da.sto
  have htm := da.tim
  have hc := T.cl_Days
  have hn1 := T.na_Days_store
  have hn2 := T.na_Days_times
  have hcs := T.cl_Store
  have hns := T.na_Store_pieces
  refine q_asgN (en_cl mono_cf (by walk_at "ev") ⟨tb, F, rfl, htb, ok, tab, rfl⟩) fun p H1 hp e1 h1 => ?_
  have hpd : p ≠ d := fun z => by rw [z, hd] at hp; cases hp
  refine q_when (b := (!(tM ts).isEmpty) && false) (et_and (et_test (ev_neNilD (ev_fld (ev_var rfl) (e1 _ _ hy) hc hn2 rfl) (rd_of (e1 _ _ htm)))) fun hb => ?_) (by simp) fun _ H2 e2 => ?_
  · refine et_test (ev_opX (x := .int t) (ev_var rfl) (ex_maxD (ns := ks ts) (ev_fld (ev_var rfl) (e1 _ _ hy) hc hn2 rfl) (rd_of (e1 _ _ htm)) (en_keys ts) ?_) ?_)
    · cases ts with
      | nil => cases hb
      | cons a r => simp [ks]
    · rintro y H' e' ⟨m, hv, hm, _⟩
      subst hv
      have hmt := hlt m hm
      refine rv_val fun H3 e3 Q3 q3 => ⟨t, m, rfl, rfl, ?_⟩
      show Q3 (.bl (decide (t ≤ m))) H3
      rw [decide_eq_false (by omega)]
      exact q3
  have e12 := e1.trans e2
  refine q_asg (v := .int (S.length : Int)) (ev_is (ev_cb (ea_cons (ev_fld (ev_fld (ev_var rfl) (e12 _ _ hy) hc hn1 rfl) (e12 _ _ hs) hcs hns rfl) ea_nil) (rc_len (.dic (rd_of (e12 _ _ hd))))) (by rw [en_len])) fun H3 e3 => ?_
  have e13 := e12.trans e3
  have hsd : st ≠ d := fun z => by rw [z, hd] at hs; cases hs
  have hyd : dy ≠ d := fun z => by rw [z, hd] at hy; cases hy
  have hytm : dy ≠ tm := fun z => by rw [z, htm] at hy; cases hy
  have hstm : st ≠ tm := fun z => by rw [z, htm] at hs; cases hs
  have hp3 : H3 p = some (.dK (tD (can F))) := e3 _ _ (e2 _ _ h1)
  refine sq (cl_use (vs := [.ref st, .ref p]) (ea_cons (ev_fld (ev_var rfl) (e13 _ _ hy) hc hn1 rfl) (ea_cons (ev_var rfl) ea_nil)) fun H4 e4 => ⟨st, d, p, S, can F, rfl, Sto.ex (e13.trans e4) da.sto, rd_of (e4 _ _ hp3), hpd, fok, tab.ex (e13.trans e4), wf, hl, fun nm S' H5 wf5 gr5 hl5 hat hsm ex5 hd5 => ?_⟩)
  have e14 := e13.trans e4
  have hy5 := ex5 _ _ hyd (e14 _ _ hy)
  have hs5 := ex5 _ _ hsd (e14 _ _ hs)
  have htm5 := ex5 _ _ da.ne (e14 _ _ htm)
  refine ev_use (ev_fld (ev_var rfl) hy5 hc hn2 rfl) fun H6 e6 => ev_use (ev_var rfl) fun H7 e7 => ⟨tm, _, rfl, DPut.k (k := .inl t) (e7 _ _ (e6 _ _ htm5)) (by rw [en_len]; exact sz_lt (by omega)), ?_⟩
  have hput : putK (tM ts) (.inl t) (.str nm) = tM (ts ++ [(t, nm)]) := by
    have hnew : t ∉ ks ts := fun z => by have := hlt t z; omega
    rw [← pu_new hnew]
    exact en_put inl_inj' ts t nm
  have e67 := e6.trans e7
  have ex7 : Exs [d, tm] H (upd H7 tm (.dK (putK (tM ts) (.inl t) (.str nm)))) := exs_upd (((exs_of e14).trans (exs_b ex5 (by simp))).then e67) (by simp)
  rw [hput] at ex7 ⊢
  have hd7 : upd H7 tm (.dK (tM (ts ++ [(t, nm)]))) d = some (.dK (tD S')) := by rw [upd_ne (Ne.symm da.ne)]; exact e67 _ _ hd5
  have hy7 : upd H7 tm (.dK (tM (ts ++ [(t, nm)]))) dy = some (.ins T.C_Days dx [("store", .ref st), ("times", .ref tm)]) := by rw [upd_ne hytm]; exact e67 _ _ hy5
  have hs7 : upd H7 tm (.dK (tM (ts ++ [(t, nm)]))) st = some (.ins T.C_Store dx2 [("pieces", .ref d)]) := by rw [upd_ne hstm]; exact e67 _ _ hs5
  have htm7 : upd H7 tm (.dK (tM (ts ++ [(t, nm)]))) tm = some (.dK (tM (ts ++ [(t, nm)]))) := upd_same
  generalize upd H7 tm (.dK (tM (ts ++ [(t, nm)]))) = H8 at ex7 hd7 hy7 hs7 htm7
  refine s_ret (v := .int ((S'.length : Int) - (S.length : Int))) (ev_op (ev_is (ev_cb (ea_cons (ev_fld (ev_fld (ev_var rfl) hy7 hc hn1 rfl) hs7 hcs hns rfl) ea_nil) (rc_len (.dic (rd_of hd7)))) (by rw [en_len])) (ev_var rfl) rv_I0) fun H9 e9 => ?_
  exact q nm S' H9 wf5 gr5 hl5 hat hsm (ex7.then e9) ⟨⟨dx, e9 _ _ hy7⟩, ⟨⟨dx2, e9 _ _ hs7⟩, e9 _ _ hd7⟩, e9 _ _ htm7, da.ne⟩
def spForget (CD : Addr) (K : PySem.W.Frag) : Sp := fun vs H Q _ => ∃ (dy st tm dx l : Addr) (ts : Tm) (gs : List Int), vs = [.ref dy, .ref l] ∧ H dy = some (.ins CD dx [("store", .ref st), ("times", .ref tm)]) ∧ H tm = some (.dK (tM ts)) ∧ SqT K H l (gs.map V.int) ∧ gs.Nodup ∧ (∀ g ∈ gs, g ∈ ks ts) ∧
  ∀ H', Exs [tm] H H' → H' tm = some (.dK (tM (ts.filter fun r => decide (r.1 ∉ gs)))) → Q .non H'
theorem Days_forget_ok (T : Md K mg base) (hk : 1 ≤ k) : MethOk P w K mg base T.C_Days k "forget" ["self", "times"] (spForget T.C_Days K) := by
  obtain ⟨k, rfl⟩ : ∃ j, k = j + 1 := ⟨k - 1, by omega⟩
  refine T.md_Days_forget.ok (N := ["self", "times", "time"]) sc_Days_forget (by rintro vs H Q E ⟨dy, st, tm, dx, l, ts, gs, rfl, -⟩; rfl) ?_
  rintro f cdv A outer s H vs Q E hr ⟨dy, st, tm, dx, l, ts, gs, rfl, hy, htm, hl, nd, hin, q⟩
  refine ⟨_, (pss_cons (ps_for PassesOwn.never rfl (pi_tup (pv 1)) (pg_name (i := 2) sc_Days_forget.nd rfl (Or.inl rfl))
      (pss_one (ps_if (pt_cmp (pc_dnotin (hu_of hr) (pv 2) (pe_fld (pv 0) rfl))) (pss_one ps_never) pss_nil)))
    (pss_one (ps_for PassesOwn.never rfl (pi_tup (pv 1)) (pg_name (i := 2) sc_Days_forget.nd rfl (Or.inl rfl))
      (pss_one (ps_expr (pe_dpop2 (pe_fld (pv 0) rfl) (pv 2) pe_non ⟨by rfl, by rfl, by rfl, by rfl⟩)))))), ?_⟩
  have hc := T.cl_Days
  have hn2 := T.na_Days_times
  have hytm : dy ≠ tm := fun z => by rw [z, htm] at hy; cases hy
  refine q_forT (xs := gs.map V.int) (ev_var rfl) hl (fun i σ' H' => Ex H H' ∧ ∃ u, σ' = [some (.ref dy), some (.ref l), u]) (fun H1 e1 => ⟨e1, _, rfl⟩) (fun i σ' H' _ h => ex_t h.1 hl) ?_ ?_
  · rintro i y σ' H' hi ⟨e, u, rfl⟩
    obtain ⟨g, hg, -, rfl⟩ := map_at' hi
    refine s_when (b := false) (et_is (et_B (ev_dnotin (k := .inl g) (ev_var rfl) (ev_fld (ev_var rfl) (e _ _ hy) hc hn2 rfl) (rd_of (e _ _ htm)))) ?_) (by simp) fun _ H1 e1 => ⟨e.trans e1, _, rfl⟩
    rw [en_look inl_inj', Option.isSome_map, lk_isSome, decide_eq_true (hin g hg)]; rfl
  · rintro σ' H' ⟨e, u, rfl⟩
    refine s_forT (xs := gs.map V.int) (ev_var rfl) (ex_t e hl) (fun i σ' H' => Exs [tm] H H' ∧ H' tm = some (.dK (tM (ts.filter fun r => decide (r.1 ∉ gs.take i)))) ∧ ∃ u, σ' = [some (.ref dy), some (.ref l), u]) (fun H1 e1 => ⟨exs_of (e.trans e1), ?_, _, rfl⟩) (fun i σ' H' _ h => ?_) ?_ ?_
    · rw [e1 _ _ (e _ _ htm)]; simp [filter_true]
    · exact exs_t h.1 (all1 (notup_d (rd_of htm))) hl
    · rintro i y σ' H1 hi ⟨ex, ht, u, rfl⟩
      obtain ⟨g, hg, hgi, rfl⟩ := map_at' hi
      have hny : dy ∉ [tm] := by simpa using hytm
      have hgk : g ∈ ks (ts.filter fun r => decide (r.1 ∉ gs.take i)) := by
        obtain ⟨r, hr1, hr2⟩ := List.mem_map.mp (hin g hg)
        refine List.mem_map.mpr ⟨r, List.mem_filter.mpr ⟨hr1, decide_eq_true ?_⟩, hr2⟩
        rw [hr2]
        intro z
        obtain ⟨j, hj, hje⟩ := List.getElem_of_mem z
        rw [List.length_take] at hj
        rw [List.getElem_take] at hje
        obtain ⟨hlt, hge⟩ := List.getElem?_eq_some_iff.mp hgi
        have := (List.getElem_inj nd).mp (hje.trans hge.symm)
        omega
      obtain ⟨nm, hnm⟩ := mem_ks hgk
      show tDrop _ _ [some (.ref dy), some (.ref l), some (.int g)] H1
      refine s_dpop (k := .inl g) (v := .str nm) (ev_fld (ev_var rfl) (ex _ _ hny hy) hc hn2 rfl) (ev_var rfl) ev_c ht (by rw [en_look inl_inj', hnm]; rfl) fun H2 e2 => ?_
      refine ⟨exs_upd (ex.then e2) (by simp), ?_, _, rfl⟩
      rw [upd_same, en_drop inl_inj']
      obtain ⟨hlt, hge⟩ := List.getElem?_eq_some_iff.mp hgi
      rw [List.take_succ_eq_append_getElem hlt, hge]
      unfold dl
      rw [List.filter_filter]
      congr 4
      funext r
      by_cases z1 : r.1 = g <;> by_cases z2 : r.1 ∈ gs.take i <;> simp [z1, z2]
    · rintro σ' H1 ⟨ex, ht, u, rfl⟩
      rw [List.length_map, List.take_length] at ht
      exact q H1 ex ht
end
end Kw


set_option Elab.async false
set_option linter.all false
set_option maxRecDepth 100000
set_option maxHeartbeats 4000000
/-! Day3: days: what is needed, swept, hurt. -/
namespace Kw
open PySem PySem.Spec PyProof.Rows L2 Evl
local macro_rules
  | `(tactic| walk_at "hp") => `(tactic| first
      | exact prp (by assumption)
      | exact rfl
      | exact upd_same
      | ((with_reducible apply sq_of); first | assumption | exact upd_same)
      | ((with_reducible apply st_of); first | assumption | exact upd_same)
      | ((with_reducible apply rd_of); first | assumption | exact upd_same)
      | ((with_reducible apply ex_l); assumption; walk_at "hp")
      | ((with_reducible apply ex_t); assumption; walk_at "hp")
      | ((with_reducible apply ex_rd); assumption; walk_at "hp")
      | ((with_reducible apply ex_at); assumption; walk_at "hp")
      | ((with_reducible apply Or.inl); walk_at "hp")
      | ((with_reducible apply Or.inr); walk_at "hp")
      | ((with_reducible apply LenD.lst); walk_at "hp")
      | ((with_reducible apply LenD.tup); walk_at "hp")
      | ((with_reducible apply LenD.dic); walk_at "hp")
      | ((with_reducible apply LenD.str); walk_at "hp")
      | ((with_reducible apply mulR); decide)
      | ((with_reducible apply mulL); decide)
      | decide
      | omega)
local macro_rules
  | `(tactic| walk_at "ev") => `(tactic| ((fail_if_success (with_reducible apply ev_bad)); (fail_if_success (with_reducible apply et_bad)); (fail_if_success (with_reducible apply ea_bad)); (fail_if_success (with_reducible apply en_bad)); first
      | ((with_reducible apply ev_var); exact rfl)
      | (with_reducible exact ev_c)
      | (with_reducible exact ea_nil)
      | (with_reducible exact eo_none)
      | ((with_reducible apply eo_some) <;> try walk_at "ev")
      | ((with_reducible apply ea_cons) <;> try walk_at "ev")
      | ((with_reducible apply ev_inTup) <;> try walk_at "ev")
      | ((with_reducible apply ev_niTup) <;> try walk_at "ev")
      | ((with_reducible apply ev_ixP) <;> try walk_at "ev")
      | (with_reducible exact rv_isN)
      | (with_reducible exact rv_notN)
      | ((with_reducible apply ev_op) <;> try walk_at "ev")
      | (with_reducible exact rv_I0)
      | ((with_reducible apply rv_I) <;> try walk_at "hp")
      | ((with_reducible apply rv_eq); exact rfl)
      | ((with_reducible apply rv_ne); exact rfl)
      | ((with_reducible apply rv_addS) <;> try walk_at "hp")
      | ((with_reducible apply rv_ixL); walk_at "hp"; walk_at "hp")
      | ((with_reducible apply rv_ixT); walk_at "hp"; walk_at "hp")
      | ((with_reducible apply ev_cb) <;> try walk_at "ev")
      | ((with_reducible apply rc_len); walk_at "hp")
      | (with_reducible exact rc_ord)
      | ((with_reducible apply rc_str) <;> try walk_at "hp")
      | (with_reducible exact rc_int)
      | (with_reducible exact rc_intB)
      | (with_reducible exact rc_abs)
      | (with_reducible exact rc_max2)
      | (with_reducible exact rc_min2)
      | ((with_reducible apply ev_joinN) <;> try walk_at "ev")
      | ((with_reducible apply ev_m1) <;> try walk_at "ev")
      | ((with_reducible apply rm_strip) <;> try walk_at "hp")
      | (with_reducible exact rm_starts)
      | ((with_reducible apply rm_join) <;> try walk_at "hp")
      | ((with_reducible apply ev_slS) <;> try walk_at "ev")
      | ((with_reducible apply ev_dget) <;> try walk_at "ev")
      | ((with_reducible apply ev_din) <;> try walk_at "ev")
      | ((with_reducible apply ev_dnotin) <;> try walk_at "ev")
      | ((with_reducible apply ev_fld) <;> try walk_at "ev")
      | ((with_reducible apply et_test) <;> try walk_at "ev")
      | ((with_reducible apply et_B) <;> try walk_at "ev")
      | ((with_reducible apply et_and) <;> try walk_at "ev")
      | ((with_reducible apply et_or) <;> try walk_at "ev")
      | ((with_reducible apply et_not) <;> try walk_at "ev")
      | (with_reducible exact en_dnew)
      | (with_reducible exact et_yes)
      | ((with_reducible apply ex_tup) <;> try walk_at "ev")
      | ((with_reducible apply en_slL) <;> try walk_at "ev")
      | ((with_reducible apply en_split) <;> try walk_at "ev")
      | ((with_reducible apply en_part) <;> try walk_at "ev")
      | walk_at "hp"
      | ((with_reducible refine fun hb => ?_); try walk_at "ev")))
local macro_rules
  | `(tactic| walk_at "lcf") => `(tactic| first
      | (intro _ _ _ _ _; exact rfl)
      | (intro _ _ _ _ _; dsimp only [Cx.blk]; done)
      | (intro _ _ _ _ _; dsimp only [Cx.blk]; exact rfl))
theorem reach_dpt {S : Tb} {nm a : Str} (h : Reach S nm a) : ∀ {n : Nat}, Dpt n S nm → ∃ m, Dpt m S a := by
  induction h with
  | refl => exact fun {n} h => ⟨n, h⟩
  | step _ hx hc ih =>
    intro n hn
    obtain ⟨m, hm⟩ := ih hn
    cases m with
    | zero => exact hm.elim
    | succ m =>
      obtain ⟨x, h1, h2⟩ := hm
      rw [hx] at h1
      cases h1
      exact ⟨m, h2 _ hc⟩
theorem reach_lk {S : Tb} {nm a : Str} {n : Nat} (h : Reach S nm a) (hd : Dpt n S nm) : ∃ x, lk S a = some x := let ⟨_, hm⟩ := reach_dpt h hd; dpt_lk hm
/-- each root hangs together, and is not too wide -/
def Rooted (S : Tb) (ts : Tm) : Prop := ∀ r ∈ ts, ∃ n, Dpt n S r.2 ∧ rl n S r.2 ≤ 80000
section
variable {K : PySem.W.Frag} {σ : L2.St} {H : Hp} {tl : TE} {D : Ends} {tu : TS} {g : TG}
/-- for over a tuple just made, its items known -/
theorem s_forTX {R : List V → Hp → Prop} (h : EvX tl σ H (fun v H' => ∃ p xs, v = .ref p ∧ SqT K H' p xs ∧ R xs H'))
    (body : ∀ p xs H1, Ex H H1 → SqT K H1 p xs → R xs H1 → ∃ Pv : Nat → L2.St → Hp → Prop, Pv 0 σ H1 ∧ (∀ i σ' H', i ≤ xs.length → Pv i σ' H' → SqT K H' p xs) ∧
      (∀ i x σ' H', xs[i]? = some x → Pv i σ' H' → g x σ' H' fun σ2 H2 => tu { D with nx := Pv (i + 1), ct := Pv (i + 1), bk := D.nx } σ2 H2) ∧ (∀ σ' H', Pv xs.length σ' H' → D.nx σ' H')) : tFor (iTup K tl) g tu D σ H :=
  h H (Ex.refl H) _ fun v H1 e1 hv => by
    obtain ⟨p, xs, rfl, hs, hr⟩ := hv
    obtain ⟨Pv, h0, hl, hst, hd⟩ := body p xs H1 e1 hs hr
    exact ⟨p, rfl, ⟨_, hs⟩, for_tup Pv h0 hl hst hd⟩
end
section
variable {P : Program} {w : World} {K : PySem.W.Frag} {mg : Str → Option Value} {base : Heap} {k : Nat}
def spNeeded (CD CS : Addr) : Sp := fun vs H Q _ => ∃ (dy st d tm : Addr) (S : Tb) (ts : Tm), vs = [.ref dy] ∧ DayAt CD CS dy st d tm H S ts ∧ WF S ∧ ts.length ≤ 1000 ∧ (ks ts).Nodup ∧ Rooted S ts ∧
  ∀ ns : List Str, ns.Nodup → (∀ a, a ∈ ns ↔ ∃ r ∈ ts, Reach S r.2 a) → ∀ p H', H p = none → Ex H H' → H' p = some (.tup ((sortS ns).map V.str)) → Q (.ref p) H'
theorem Days_needed_ok (T : Md K mg base) (hk : 6 ≤ k) : MethOk P w K mg base T.C_Days k "needed" ["self"] (spNeeded T.C_Days T.C_Store) := by
  obtain ⟨k, rfl⟩ : ∃ j, k = j + 1 := ⟨k - 1, by omega⟩
  refine T.md_Days_needed.ok (N := ["self", "found", "time", "name"]) sc_Days_needed (by rintro vs H Q E ⟨dy, st, d, tm, S, ts, rfl, -⟩; rfl) ?_
  rintro f cdv A outer s H vs Q E hr ⟨dy, st, d, tm, S, ts, rfl, da, wf, hl, ndt, hroot, q⟩
  refine ⟨_, (pss_cons (ps_set (i := 1) sc_Days_needed.nd rfl (Or.inl rfl) pe_dnewK)
    (pss_cons (ps_un (ps_for PassesOwn.never rfl (pi_keys (pe_lkA (pe_fld (pv 0) rfl))) (pg_name (i := 2) sc_Days_needed.nd rfl (Or.inl rfl))
      (pss_one (ps_for PassesOwn.never rfl (pi_tup (pe_c (needs_ok T (by omega)) hr (by rfl) (pa_cons (pe_fld (pv 0) rfl) (pa_cons (pe_dget (hu_of hr) (pe_fld (pv 0) rfl) (pv 2) (fun _ _ => rfl)) pa_nil)))) (pg_name (i := 3) sc_Days_needed.nd rfl (Or.inl rfl))
        (pss_one (ps_dput (hu_of hr) (pv 1) (pv 3) pe_int rfl))))))
    (pss_one (ps_ret (b_tupleL T.b (pa_cons (b_sortedD T.b (hu64_of hr) (pa_cons (pv 1) pa_nil)) pa_nil)))))), ?_⟩
  obtain ⟨dx, hy⟩ := da.day
  obtain ⟨⟨dx2, hs⟩, hd⟩ := da.sto
  have htm := da.tim
  have hc := T.cl_Days
  have hn1 := T.na_Days_store
  have hn2 := T.na_Days_times
  have hytm : dy ≠ tm := fun z => by rw [z, htm] at hy; cases hy
  have hstm : st ≠ tm := fun z => by rw [z, htm] at hs; cases hs
  refine q_asgN en_dnew fun F H1 hF e1 h1 => ?_
  refine s_forK (D := { nx := _, rt := _ }) (N := NF _) (C := fun a => a = tm) (te := tFld K (tVar 0) "times") (kvs := tM ts) (fun Q' q' => ev_fld (ev_var rfl) (e1 _ _ hy) hc hn2 rfl H1 (Ex.refl _) _ fun H2 e2 => q' tm H2 rfl e2 (rd_of (e2 _ _ (e1 _ _ htm)))) fun d' H2 B od hd' e2 l => ?_
  subst hd'
  have e12 := e1.trans e2
  have hyB : B dy = some (.ins T.C_Days dx [("store", .ref st), ("times", .ref d')]) := by rw [l.off _ hytm]; exact e12 _ _ hy
  have hsB : B st = some (.ins T.C_Store dx2 [("pieces", .ref d)]) := by rw [l.off _ hstm]; exact e12 _ _ hs
  have hdB : B d = some (.dK (tD S)) := by rw [l.off _ (Ne.symm da.ne)]; exact e12 _ _ hd
  have hFt : F ≠ d' := fun z => by rw [z, htm] at hF; cases hF
  have hFB : B F = some (.dK []) := by rw [l.off _ hFt]; exact e2 _ _ h1
  have hyF : dy ≠ F := fun z => by rw [z, hF] at hy; cases hy
  have hsF : st ≠ F := fun z => by rw [z, hF] at hs; cases hs
  have hdF : d ≠ F := fun z => by rw [z, hF] at hd; cases hd
  refine ⟨fun i σ' H' => Exb F B H' ∧ (∃ t : List (Str × Int), H' F = some (.dK (tN t)) ∧ (ks t).Nodup ∧ ∀ a, a ∈ ks t ↔ ∃ r ∈ ts.take i, Reach S r.2 a) ∧ ∃ u v, σ' = [some (.ref dy), some (.ref F), u, v],
    ⟨Exb.refl _ _, ⟨[], hFB, by simp [ks], by simp [ks]⟩, _, _, rfl⟩, fun i σ' H' h => h.1 _ _ (Ne.symm hFt) l.there, ?_, ?_⟩
  · rintro i kk vv σ' H' hi ⟨ex, ⟨t, hF', nd, hmem⟩, u, v, rfl⟩
    obtain ⟨r, hr1, hri, rfl, rfl⟩ := en_at hi
    obtain ⟨n, hdp, hrl⟩ := hroot r hr1
    have hlkd : H' d' = some (.frz od (.dK (tM ts))) := ex _ _ (Ne.symm hFt) l.there
    show tFor _ _ _ _ [some (.ref dy), some (.ref F), some (.int r.1), v] H'
    have hlk : lk ts r.1 = some r.2 := lk_of ndt hr1
    have hy' := ex _ _ hyF hyB
    have hs' := ex _ _ hsF hsB
    have hd' := ex _ _ hdF hdB
    have inS : ∀ r' ∈ ts, ∀ a, Reach S r'.2 a → a ∈ ks S := fun r' hr' a ha => by
      obtain ⟨n', h1, _⟩ := hroot r' hr'
      obtain ⟨x, hx⟩ := reach_lk ha h1
      exact ks_mem (lk_mem hx)
    refine s_forTX (K := K) (R := fun xs H'' => ∃ ns : List Str, xs = (sortS ns).map V.str ∧ ns.Nodup ∧ ∀ a, a ∈ ns ↔ Reach S r.2 a) ?hN ?hB
    case hN =>
      intro H3 e3 Q3 q3
      refine cl_use (vs := [.ref st, .str r.2]) (ea_cons (ev_fld (ev_var rfl) (e3 _ _ hy') hc hn1 rfl) (ea_cons (ev_dget (k := .inl r.1) (ev_fld (ev_var rfl) (e3 _ _ hy') hc hn2 rfl) (ev_var rfl) (.inr ⟨_, e3 _ _ hlkd⟩) (by rw [en_look inl_inj', hlk]; rfl)) ea_nil)) fun H4 e4 => ⟨st, d, S, S, r.2, n, rfl, ⟨⟨dx2, e4 _ _ (e3 _ _ hs')⟩, e4 _ _ (e3 _ _ hd')⟩, wf, wf, Grow.refl _, hdp, hrl, fun ns ndn hm _ p H5 hp e5 h5 => q3 _ H5 (e4.trans e5) ⟨p, _, rfl, st_of h5, ns, rfl, ndn, hm⟩, fun ⟨a, ha, hn⟩ => ?_⟩
      obtain ⟨x, hx⟩ := reach_lk ha hdp
      rw [hx] at hn
      cases hn
    case hB =>
      rintro p xs H3 e3 hp ⟨ns, rfl, ndn, hmn⟩
      refine ⟨fun j σ'' H'' => Exb F H3 H'' ∧ (∃ t2 : List (Str × Int), H'' F = some (.dK (tN t2)) ∧ (ks t2).Nodup ∧ ∀ a, a ∈ ks t2 ↔ a ∈ ks t ∨ a ∈ (sortS ns).take j) ∧ ∃ w, σ'' = [some (.ref dy), some (.ref F), some (.int r.1), w],
        ⟨Exb.refl _ _, ⟨t, e3 _ _ hF', nd, by simp⟩, _, rfl⟩, fun j σ'' H'' _ h => exb_t h.1 (rd_of (e3 _ _ hF')) hp, ?_, ?_⟩
      · rintro j x σ'' H'' hj ⟨ex2, ⟨t2, hF2, nd2, hm2⟩, w, rfl⟩
        obtain ⟨a, ha, haj, rfl⟩ := map_at' hj
        have ht2 : t2.length ≤ 90000 := by
          have z := nd_sub_len (xs := ks t2) (ys := ks S) nd2 fun c hc' => by
            rcases (hm2 c).mp hc' with g | g
            · obtain ⟨r', hr', hre⟩ := (hmem c).mp g
              exact inS r' (List.mem_of_mem_take hr') c hre
            · exact inS r hr1 c ((hmn c).mp (mem_sortS.mp (List.mem_of_mem_take g)))
          have z2 := wf.few
          simp only [ks, List.length_map] at z
          omega
        show sDPut _ _ _ _ [some (.ref dy), some (.ref F), some (.int r.1), some (.str a)] H''
        refine s_dput (k := .inr a) (v := .int 1) ev_c (ev_var rfl) (ev_var rfl) hF2 (by rw [en_len]; exact sz_lt (by omega)) fun H5 e5 => ?_
        refine ⟨exb_upd (ex2.trans (exb_of e5)), ⟨pu t2 a 1, ?_, nd_pu nd2, fun c => ?_⟩, _, rfl⟩
        · rw [upd_same]; exact congrArg (fun y => some (HO.dK y)) (en_put inr_inj' t2 a 1)
        · obtain ⟨hlt, hae⟩ := List.getElem?_eq_some_iff.mp haj
          rw [mem_ks_pu, hm2, List.take_succ_eq_append_getElem hlt, hae, List.mem_append, List.mem_singleton]
          constructor
          · rintro (rfl | h | h)
            · exact .inr (.inr rfl)
            · exact .inl h
            · exact .inr (.inl h)
          · rintro (h | h | h)
            · exact .inr (.inl h)
            · exact .inr (.inr h)
            · exact .inl h
      · rintro σ'' H'' ⟨ex2, ⟨t2, hF2, nd2, hm2⟩, w, rfl⟩
        rw [List.length_map, List.take_length] at hm2
        refine ⟨ex.trans ((exb_of e3).trans ex2), ⟨t2, hF2, nd2, fun c => ?_⟩, _, _, rfl⟩
        obtain ⟨hlt, hre⟩ := List.getElem?_eq_some_iff.mp hri
        rw [hm2, hmem, mem_sortS, hmn, List.take_succ_eq_append_getElem hlt, hre]
        constructor
        · rintro (⟨r', h1, h2⟩ | h)
          · exact ⟨r', List.mem_append_left _ h1, h2⟩
          · exact ⟨r, by simp, h⟩
        · rintro ⟨r', h1, h2⟩
          rcases List.mem_append.mp h1 with h1 | h1
          · exact .inl ⟨r', h1, h2⟩
          · rw [List.mem_singleton.mp h1] at h2
            exact .inr h2
  · rintro σ' H' ⟨ex, ⟨t, hF', nd, hmem⟩, u, v, rfl⟩ Hf g1 g2
    have e0 : ts.take (tM ts).length = ts := List.take_of_length_le (by rw [en_len]; exact Nat.le_refl _)
    rw [e0] at hmem
    have eF : Ex H Hf := fun a o ho => by
      by_cases z : a = d'
      · rw [z, g2]; exact e12 _ _ (z ▸ ho)
      · have zF : a ≠ F := fun y => by rw [y, hF] at ho; cases ho
        rw [g1 a z]
        exact ex _ _ zF (by rw [l.off _ z]; exact e12 _ _ ho)
    have hFf : Hf F = some (.dK (tN t)) := by rw [g1 F hFt]; exact hF'
    refine s_retN (en_tupN (en_srtDS (ks := ks t) (ev_var rfl) (rd_of hFf) (en_keys t))) fun p H5 hp e5 h5 => q (ks t) nd hmem p H5 (fresh_back eF hp) (eF.trans e5) h5
end
end Kw


set_option Elab.async false
set_option linter.all false
set_option maxRecDepth 100000
set_option maxHeartbeats 4000000
/-! Day4: days: swept, hurt. -/
namespace Kw
open PySem PySem.Spec PyProof.Rows L2 Evl
local macro_rules
  | `(tactic| walk_at "hp") => `(tactic| first
      | exact prp (by assumption)
      | exact rfl
      | exact upd_same
      | ((with_reducible apply sq_of); first | assumption | exact upd_same)
      | ((with_reducible apply st_of); first | assumption | exact upd_same)
      | ((with_reducible apply rd_of); first | assumption | exact upd_same)
      | ((with_reducible apply ex_l); assumption; walk_at "hp")
      | ((with_reducible apply ex_t); assumption; walk_at "hp")
      | ((with_reducible apply ex_rd); assumption; walk_at "hp")
      | ((with_reducible apply ex_at); assumption; walk_at "hp")
      | ((with_reducible apply Or.inl); walk_at "hp")
      | ((with_reducible apply Or.inr); walk_at "hp")
      | ((with_reducible apply LenD.lst); walk_at "hp")
      | ((with_reducible apply LenD.tup); walk_at "hp")
      | ((with_reducible apply LenD.dic); walk_at "hp")
      | ((with_reducible apply LenD.str); walk_at "hp")
      | ((with_reducible apply mulR); decide)
      | ((with_reducible apply mulL); decide)
      | decide
      | omega)
local macro_rules
  | `(tactic| walk_at "ev") => `(tactic| ((fail_if_success (with_reducible apply ev_bad)); (fail_if_success (with_reducible apply et_bad)); (fail_if_success (with_reducible apply ea_bad)); (fail_if_success (with_reducible apply en_bad)); first
      | ((with_reducible apply ev_var); exact rfl)
      | (with_reducible exact ev_c)
      | (with_reducible exact ea_nil)
      | (with_reducible exact eo_none)
      | ((with_reducible apply eo_some) <;> try walk_at "ev")
      | ((with_reducible apply ea_cons) <;> try walk_at "ev")
      | ((with_reducible apply ev_inTup) <;> try walk_at "ev")
      | ((with_reducible apply ev_niTup) <;> try walk_at "ev")
      | ((with_reducible apply ev_ixP) <;> try walk_at "ev")
      | (with_reducible exact rv_isN)
      | (with_reducible exact rv_notN)
      | ((with_reducible apply ev_op) <;> try walk_at "ev")
      | (with_reducible exact rv_I0)
      | ((with_reducible apply rv_I) <;> try walk_at "hp")
      | ((with_reducible apply rv_eq); exact rfl)
      | ((with_reducible apply rv_ne); exact rfl)
      | ((with_reducible apply rv_addS) <;> try walk_at "hp")
      | ((with_reducible apply rv_ixL); walk_at "hp"; walk_at "hp")
      | ((with_reducible apply rv_ixT); walk_at "hp"; walk_at "hp")
      | ((with_reducible apply ev_cb) <;> try walk_at "ev")
      | ((with_reducible apply rc_len); walk_at "hp")
      | (with_reducible exact rc_ord)
      | ((with_reducible apply rc_str) <;> try walk_at "hp")
      | (with_reducible exact rc_int)
      | (with_reducible exact rc_intB)
      | (with_reducible exact rc_abs)
      | (with_reducible exact rc_max2)
      | (with_reducible exact rc_min2)
      | ((with_reducible apply ev_joinN) <;> try walk_at "ev")
      | ((with_reducible apply ev_m1) <;> try walk_at "ev")
      | ((with_reducible apply rm_strip) <;> try walk_at "hp")
      | (with_reducible exact rm_starts)
      | ((with_reducible apply rm_join) <;> try walk_at "hp")
      | ((with_reducible apply ev_slS) <;> try walk_at "ev")
      | ((with_reducible apply ev_dget) <;> try walk_at "ev")
      | ((with_reducible apply ev_din) <;> try walk_at "ev")
      | ((with_reducible apply ev_dnotin) <;> try walk_at "ev")
      | ((with_reducible apply ev_fld) <;> try walk_at "ev")
      | ((with_reducible apply et_test) <;> try walk_at "ev")
      | ((with_reducible apply et_B) <;> try walk_at "ev")
      | ((with_reducible apply et_and) <;> try walk_at "ev")
      | ((with_reducible apply et_or) <;> try walk_at "ev")
      | ((with_reducible apply et_not) <;> try walk_at "ev")
      | (with_reducible exact en_dnew)
      | (with_reducible exact et_yes)
      | ((with_reducible apply ex_tup) <;> try walk_at "ev")
      | ((with_reducible apply en_slL) <;> try walk_at "ev")
      | ((with_reducible apply en_split) <;> try walk_at "ev")
      | ((with_reducible apply en_part) <;> try walk_at "ev")
      | walk_at "hp"
      | ((with_reducible refine fun hb => ?_); try walk_at "ev")))
local macro_rules
  | `(tactic| walk_at "lcf") => `(tactic| first
      | (intro _ _ _ _ _; exact rfl)
      | (intro _ _ _ _ _; dsimp only [Cx.blk]; done)
      | (intro _ _ _ _ _; dsimp only [Cx.blk]; exact rfl))
theorem notin_take {α : Type} {l : List α} (nd : l.Nodup) {i : Nat} {a : α} (h : l[i]? = some a) : a ∉ l.take i := by
  intro z
  obtain ⟨j, hj, hje⟩ := List.getElem_of_mem z
  rw [List.length_take] at hj
  rw [List.getElem_take] at hje
  obtain ⟨hlt, hge⟩ := List.getElem?_eq_some_iff.mp h
  have := (List.getElem_inj nd).mp (hje.trans hge.symm)
  omega
theorem perm_nd {α : Type} {a b : List α} (ha : a.Nodup) (hb : b.Nodup) (h : ∀ x, x ∈ a ↔ x ∈ b) : a.Perm b := (List.perm_ext_iff_of_nodup ha hb).mpr fun x => h x
/-- the names that the times need -/
noncomputable def needL (S : Tb) (ts : Tm) : List Str := (ks S).filter fun a => @decide (∃ r ∈ ts, Reach S r.2 a) (Classical.propDecidable _)
theorem nd_needL {S : Tb} (wf : WF S) (ts : Tm) : (needL S ts).Nodup := wf.nd.filter _
theorem mem_needL {S : Tb} {ts : Tm} (h : Rooted S ts) {a : Str} : a ∈ needL S ts ↔ ∃ r ∈ ts, Reach S r.2 a := by
  unfold needL
  rw [List.mem_filter]
  constructor
  · rintro ⟨_, h2⟩
    exact @of_decide_eq_true _ (Classical.propDecidable _) h2
  · rintro ⟨r, hr, ha⟩
    obtain ⟨n, h1, _⟩ := h r hr
    obtain ⟨x, hx⟩ := reach_lk ha h1
    exact ⟨ks_mem (lk_mem hx), @decide_eq_true _ (Classical.propDecidable _) ⟨r, hr, ha⟩⟩
theorem cl_use' {σ : L2.St} {H : Hp} {sp : Sp} {vs : List V} {E : L2.St → XK} {ta : TA} {Q : VK} (h : EvA ta σ H vs) (q : ∀ H1, Ex H H1 → sp vs H1 Q (E σ)) : tCallS sp E ta σ H Q := h H (Ex.refl H) _ fun H1 e => q H1 e
section
variable {P : Program} {w : World} {K : PySem.W.Frag} {mg : Str → Option Value} {base : Heap} {k : Nat}
def spSweep (CD CS : Addr) : Sp := fun vs H Q _ => ∃ (dy st d tm : Addr) (S : Tb) (ts : Tm), vs = [.ref dy] ∧ DayAt CD CS dy st d tm H S ts ∧ WF S ∧ ts.length ≤ 1000 ∧ (ks ts).Nodup ∧ Rooted S ts ∧
  ∀ v H', Exs [d] H H' → DayAt CD CS dy st d tm H' (S.filter fun r => decide (r.1 ∈ needL S ts)) ts → Q v H'
theorem Days_sweep_ok (T : Md K mg base) (hk : 7 ≤ k) : MethOk P w K mg base T.C_Days k "sweep" ["self"] (spSweep T.C_Days T.C_Store) := by
  obtain ⟨k, rfl⟩ : ∃ j, k = j + 1 := ⟨k - 1, by omega⟩
  refine T.md_Days_sweep.ok (N := ["self", "keep", "gone", "name"]) sc_Days_sweep (by rintro vs H Q E ⟨dy, st, d, tm, S, ts, rfl, -⟩; rfl) ?_
  rintro f cdv A outer s H vs Q E hr ⟨dy, st, d, tm, S, ts, rfl, da, wf, hl, ndt, hroot, q⟩
  refine ⟨_, (pss_cons (ps_set (i := 1) sc_Days_sweep.nd rfl (Or.inr rfl) (b_dictL T.b (pa_cons (pe_lcF (own := [("name", 3)]) rfl sc_Days_sweep.nd (pi_tup (pe_m0 T.cl_Days (Days_needed_ok T (by omega)) hr (pv 0))) (blkOk_by (own := [("name", 3)]) (N := ["self", "keep", "gone", "name"]) (sc := defScope st_Days_sweep) (by decide +kernel)) (fun _ _ _ _ _ => (by exact (pg_name (i := 3) sc_Days_sweep.nd rfl (Or.inl rfl)))) (fun _ _ _ _ _ => (by exact pts_nil)) (fun _ _ _ _ _ => (by exact (pe_tup (pa_cons (pv 3) (pa_cons pe_int pa_nil))))) (by walk_at "lcf") (by walk_at "lcf") (by walk_at "lcf")) pa_nil)))
    (pss_cons (ps_setLcF (own := [("name", 3)]) (i := 2) rfl sc_Days_sweep.nd rfl rfl (sw_true rfl rfl rfl (by decide +kernel)) (pi_tup (pe_m0 T.cl_Store (Store_names_ok T (by omega)) hr (pe_fld (pv 0) rfl))) (blkOk_by (own := [("name", 3)]) (N := ["self", "keep", "gone", "name"]) (sc := defScope st_Days_sweep) (by decide +kernel)) (fun _ _ _ _ _ => (by exact (pg_name (i := 3) sc_Days_sweep.nd rfl (Or.inl rfl)))) (fun _ _ _ _ _ => (by exact (pts_one (pt_cmp (pc_dnotin (hu_of hr) (pv 3) (pv 1)))))) (fun _ _ _ _ _ => (by exact (pv 3))) (by walk_at "lcf") (by walk_at "lcf") (by walk_at "lcf"))
    (pss_cons (ps_for PassesOwn.never rfl (pi_list (pv 2)) (pg_name (i := 3) sc_Days_sweep.nd rfl (Or.inl rfl))
      (pss_one (ps_expr (pe_m T.cl_Store (Store_drop_ok T (by omega)) hr (pe_fld (pv 0) rfl) (pa_cons (pv 3) pa_nil)))))
    (pss_one (ps_ret (b_tupleL T.b (pa_cons (pv 2) pa_nil))))))), ?_⟩
  obtain ⟨dx, hy⟩ := da.day
  obtain ⟨⟨dx2, hs⟩, hd⟩ := da.sto
  have htm := da.tim
  have hc := T.cl_Days
  have hn1 := T.na_Days_store
  have hsd : st ≠ d := fun z => by rw [z, hd] at hs; cases hs
  have hyd : dy ≠ d := fun z => by rw [z, hd] at hy; cases hy
  generalize hnl : needL S ts = nl at q
  have hnd : nl.Nodup := hnl ▸ nd_needL wf ts
  have hnm : ∀ a, a ∈ nl ↔ ∃ r ∈ ts, Reach S r.2 a := fun a => by rw [← hnl]; exact mem_needL hroot
  have hnS : nl.length ≤ 90000 := by
    rw [← hnl]
    have z : (needL S ts).length ≤ (ks S).length := List.length_filter_le _ _
    have z2 := wf.few
    simp only [ks, List.length_map] at z
    omega
  refine q_asgN (en_is (en_dictP (α := Str) (b := fun _ => true) (kv := fun a => (Sum.inr a, V.int 1)) (lc_T (sortS nl) V.str (fun _ => true) _ ?_ (by rw [(sortS_perm _).length_eq]; exact hnS) (fun _ => rfl) m_tup (fun _ _ _ _ => et_yes) fun a H1 _ _ _ => ex_tup (ea_cons (ev_var rfl) (ea_cons ev_c ea_nil)) (by simp))) (o' := .dK (tN ((sortS nl).map fun a => (a, (1 : Int))))) ?_) fun G H1 hG e1 h1 => ?_
  · intro H1 e1 Q1 q1
    refine ⟨_, rfl, dy, dx, _, rfl, e1 _ _ hy, rfl, dy, st, d, tm, S, ts, rfl, da.ex e1, wf, hl, ndt, hroot, fun ns ndn hmn p H2 hp e2 h2 => ?_⟩
    rw [show sortS ns = sortS nl from sortS_eq (perm_nd ndn hnd fun x => (hmn x).trans (hnm x).symm)] at h2
    exact q1 _ H2 e2 ⟨p, rfl, st_of h2⟩
  · rw [filter_true]
    have z := en_merge0 (ka := Sum.inr) (vb := V.int) inr_inj' ((sortS nl).map fun a => (a, (1 : Int)))
    have hk0 : ks ((sortS nl).map fun a => (a, (1 : Int))) = sortS nl := by unfold ks; rw [List.map_map]; exact List.map_id _
    rw [mrg_nd (by rw [hk0]; exact nd_sortS hnd)] at z
    refine congrArg HO.dK (Eq.trans ?_ z)
    unfold en
    rw [List.map_map]; rfl
  have hGd : G ≠ d := fun z => by rw [z, hd] at hG; cases hG
  have hks : ks ((sortS nl).map fun a => (a, (1 : Int))) = sortS nl := by unfold ks; rw [List.map_map]; exact List.map_id _
  refine q_asgP (lc_T (sortS (ks S)) V.str (fun a => decide (a ∉ nl)) (fun a v _ => v = V.str a) ?_ ?_ (fun _ => rfl) m_val ?_ (fun _ _ _ _ _ => ev_x (ev_var rfl))) fun L H2 hL e2 h2 => ?_
  · exact ex_N (en_mt mono_names (ev_fld (ev_var rfl) (e1 _ _ hy) hc hn1 rfl) (e1 _ _ hs) rfl ea_nil ⟨st, d, S, rfl, da.sto.ex e1, rfl⟩)
  · rw [(sortS_perm _).length_eq]; simp only [ks, List.length_map]; exact wf.few
  · intro a H2 _ e2
    refine et_is (et_B (ev_dnotin (k := .inr a) (ev_var rfl) (ev_var rfl) (rd_of (e2 _ _ h1)))) ?_
    rw [en_look inr_inj', Option.isSome_map, lk_isSome, hks]
    by_cases z : a ∈ nl <;> simp [mem_sortS, z]
  have hL2 : H2 L = some (.lst (((sortS (ks S)).filter fun a => decide (a ∉ nl)).map V.str)) := lc_val h2
  generalize hgo : (sortS (ks S)).filter (fun a => decide (a ∉ nl)) = go at hL2
  have hgn : go.Nodup := hgo ▸ (nd_sortS wf.nd).filter _
  have hgm : ∀ a, a ∈ go ↔ a ∈ ks S ∧ a ∉ nl := fun a => by rw [← hgo, List.mem_filter, mem_sortS, decide_eq_true_eq]
  have e12 := e1.trans e2
  have hLd : L ≠ d := fun z => by rw [z, e1 _ _ hd] at hL; cases hL
  refine q_forLn (xs := go.map V.str) (ev_var rfl) (sq_of hL2) (fun i σ' H' => Exs [d] H2 H' ∧ H' d = some (.dK (tD (S.filter fun r => decide (r.1 ∉ go.take i)))) ∧ ∃ u, σ' = [some (.ref dy), some (.ref G), some (.ref L), u])
    (fun H3 e3 => ⟨exs_of e3, by rw [e3 _ _ (e12 _ _ hd)]; simp [filter_true], _, rfl⟩) (fun i σ' H' _ h => exs_l h.1 (all1 (nolst_d (rd_of (e12 _ _ hd)))) (sq_of hL2)) ?_ ?_
  · rintro i x σ' H3 hi ⟨ex, hd3, u, rfl⟩
    obtain ⟨a, ha, hai, rfl⟩ := map_at' hi
    have hy3 := ex _ _ (by simpa using hyd) (e12 _ _ hy)
    have hs3 := ex _ _ (by simpa using hsd) (e12 _ _ hs)
    have hnt := notin_take hgn hai
    show tDrop _ _ [some (.ref dy), some (.ref G), some (.ref L), some (.str a)] H3
    refine mt_use (vs := [.str a]) (ev_fld (ev_var rfl) hy3 hc hn1 rfl) hs3 rfl (ea_cons (ev_var rfl) ea_nil) fun H4 e4 => ⟨st, d, S.filter fun r => decide (r.1 ∉ go.take i), a, rfl, ⟨⟨dx2, e4 _ _ hs3⟩, e4 _ _ hd3⟩, ?_, fun H5 ex5 hd5 => ?_⟩
    · obtain ⟨r, hr1, hr2⟩ := List.mem_map.mp ((hgm a).mp ha).1
      exact List.mem_map.mpr ⟨r, List.mem_filter.mpr ⟨hr1, decide_eq_true (by rw [hr2]; exact hnt)⟩, hr2⟩
    · refine ⟨(ex.then e4).trans (exs_b ex5 (by simp)), ?_, _, rfl⟩
      rw [hd5]
      obtain ⟨hlt, hge⟩ := List.getElem?_eq_some_iff.mp hai
      rw [List.take_succ_eq_append_getElem hlt, hge]
      unfold dl
      rw [List.filter_filter]
      congr 4
      funext r
      by_cases z1 : r.1 = a <;> by_cases z2 : r.1 ∈ go.take i <;> simp [z1, z2]
  · rintro σ' H3 ⟨ex, hd3, u, rfl⟩
    rw [List.length_map, List.take_length] at hd3
    have hfin : (S.filter fun r => decide (r.1 ∉ go)) = S.filter fun r => decide (r.1 ∈ nl) := by
      refine List.filter_congr fun r hr => ?_
      have g := hgm r.1
      have hk : r.1 ∈ ks S := List.mem_map.mpr ⟨r, hr, rfl⟩
      by_cases z : r.1 ∈ nl <;> simp [g, hk, z]
    rw [hfin] at hd3
    refine s_retN (en_tupL (ev_var rfl) (exs_l ex (all1 (nolst_d (rd_of (e12 _ _ hd)))) (sq_of hL2))) fun p H4 hp e4 h4 => q _ H4 (((exs_of e12).trans ex).then e4) ⟨⟨dx, e4 _ _ (ex _ _ (by simpa using hyd) (e12 _ _ hy))⟩, ⟨⟨dx2, e4 _ _ (ex _ _ (by simpa using hsd) (e12 _ _ hs))⟩, e4 _ _ hd3⟩, e4 _ _ (ex _ _ (by simpa using da.ne) (e12 _ _ htm)), da.ne⟩
def spHurt (CD CS : Addr) : Sp := fun vs H Q _ => ∃ (dy st d tm : Addr) (S S0 : Tb) (ts : Tm) (bh : Int → Bool), vs = [.ref dy] ∧ DayAt CD CS dy st d tm H S ts ∧ WF S ∧ WF S0 ∧ Grow S S0 ∧ ts.length ≤ 1000 ∧ (ks ts).Nodup ∧ Rooted S0 ts ∧
  (∀ r ∈ ts, bh r.1 = true ↔ ∃ a, Reach S0 r.2 a ∧ lk S a = none) ∧ ∀ p H', H p = none → Ex H H' → H' p = some (.tup (((sortI (ks ts)).filter bh).map V.int)) → Q (.ref p) H'
theorem Days_hurt_ok (T : Md K mg base) (hk : 6 ≤ k) : MethOk P w K mg base T.C_Days k "hurt" ["self"] (spHurt T.C_Days T.C_Store) := by
  obtain ⟨k, rfl⟩ : ∃ j, k = j + 1 := ⟨k - 1, by omega⟩
  refine T.md_Days_hurt.ok (N := ["self", "found", "time"]) sc_Days_hurt (by rintro vs H Q E ⟨dy, st, d, tm, S, S0, ts, bh, rfl, -⟩; rfl) ?_
  rintro f cdv A outer s H vs Q E hr ⟨dy, st, d, tm, S, S0, ts, bh, rfl, da, wf, wf0, gr, hl, ndt, hroot, hbh, q⟩
  refine ⟨_, (pss_cons (ps_set (i := 1) sc_Days_hurt.nd rfl (Or.inl rfl) (pe_lst pa_nil))
    (pss_cons (ps_for PassesOwn.never rfl (pi_list (b_sortedD T.b (hu64_of hr) (pa_cons (pe_fld (pv 0) rfl) pa_nil))) (pg_name (i := 2) sc_Days_hurt.nd rfl (Or.inl rfl))
      (pss_one (ps_tryTwo rfl rfl ⟨rfl, by decide, .inl T.g_NoSuch⟩ ⟨rfl, by decide, .inl T.g_BadPiece⟩ (fun W pn xe tk _ => (pss_one (ps_expr (pe_cS (needs_ok T (by omega)) hr (by rfl) (fun σ => passAt tk σ) (pa_cons (pe_fldE (K := K) rfl (pv 0) rfl) (pa_cons (pe_dget (hu_of hr) (pe_fldE (K := K) rfl (pv 0) rfl) (pv 2) (fun _ _ => rfl)) pa_nil)))))) (fun a oe cls d pn _ _ => (pss_one (ps_expr (pe_bmE (K := K) rfl PySem.F.plainAttrs_list PySem.F.slot_list_append PySem.F.type_list_append mt_append (pv 1) (pa_cons (pv 2) pa_nil))))))))
    (pss_one (ps_ret (b_tupleL T.b (pa_cons (pv 1) pa_nil)))))), ?_⟩
  obtain ⟨dx, hy⟩ := da.day
  have htm := da.tim
  have hc := T.cl_Days
  have hn1 := T.na_Days_store
  have hn2 := T.na_Days_times
  refine q_asgN en_lst0 fun F H1 hF e1 h1 => ?_
  refine q_forN (xs := (sortI (ks ts)).map V.int) (en_srtDI (ev_fld (ev_var rfl) (e1 _ _ hy) hc hn2 rfl) (rd_of (e1 _ _ htm)) (en_keys ts)) (fun p i σ' H' => Ex H H' ∧ H' p = some (.lst ((sortI (ks ts)).map V.int)) ∧ p ≠ F ∧ H' F = some (.lst ((((sortI (ks ts)).take i).filter bh).map V.int)) ∧ ∃ u, σ' = [some (.ref dy), some (.ref F), u]) ?_ ?_ ?_ ?_
  · intro p H2 hp e2 h2
    exact ⟨e1.trans e2, h2, (fun z => by rw [z, h1] at hp; cases hp), by rw [e2 _ _ h1]; rfl, _, rfl⟩
  · rintro p i σ' H' _ ⟨_, h, _⟩
    exact sq_of h
  · rintro p i x σ' H' hi ⟨e, hp, hpF, hF', u, rfl⟩
    obtain ⟨t, ht, hti, rfl⟩ := map_at' hi
    obtain ⟨nm, hnm⟩ := mem_ks (mem_sortI.mp ht)
    have hr1 := lk_mem hnm
    obtain ⟨n, hdp, hrl⟩ := hroot _ hr1
    have hb := hbh _ hr1
    have hstep : ((sortI (ks ts)).take (i + 1)).filter bh = ((sortI (ks ts)).take i).filter bh ++ (if bh t = true then [t] else []) := by
      obtain ⟨hlt, hge⟩ := List.getElem?_eq_some_iff.mp hti
      rw [List.take_succ_eq_append_getElem hlt, hge, List.filter_append]
      congr 1
      by_cases z : bh t = true <;> simp [z]
    show tDrop _ _ [some (.ref dy), some (.ref F), some (.int t)] H'
    refine cl_use' (vs := [.ref st, .str nm]) (ea_cons (ev_fld (ev_var rfl) (e _ _ hy) hc hn1 rfl) (ea_cons (ev_dget (k := .inl t) (ev_fld (ev_var rfl) (e _ _ hy) hc hn2 rfl) (ev_var rfl) (rd_of (e _ _ htm)) (by rw [en_look inl_inj', hnm]; rfl)) ea_nil)) fun H2 e2 => ⟨st, d, S, S0, nm, n, rfl, da.sto.ex (e.trans e2), wf, wf0, gr, hdp, hrl, fun ns ndn hm hall p3 H3 hp3 e3 h3 => ?_, fun hmiss H3 e3 => ⟨T.xm_hurt, fun a ha => ?_⟩⟩
    · have hbf : bh t = false := by
        cases z : bh t with
        | false => rfl
        | true =>
          obtain ⟨a, h1, h2⟩ := hb.mp z
          obtain ⟨x, hx⟩ := hall a ((hm a).mpr h1)
          rw [hx] at h2
          cases h2
      refine ⟨(e.trans e2).trans e3, e3 _ _ (e2 _ _ hp), hpF, ?_, _, rfl⟩
      rw [e3 _ _ (e2 _ _ hF'), hstep, hbf]
      simp
    · have hbt : bh t = true := hb.mpr hmiss
      have e23 := e2.trans e3
      show tDrop _ _ [some (.ref dy), some (.ref F), some (.int t)] H3
      refine s_app (e23 _ _ hF') (ev_var rfl) (ev_var rfl) ?_ fun H4 e4 => ⟨Ex.mut ((e.trans e23).trans e4) hF, ?_, hpF, ?_, _, rfl⟩
      · rw [List.length_map]
        have z := List.length_filter_le bh ((sortI (ks ts)).take i)
        have z2 : ((sortI (ks ts)).take i).length ≤ (sortI (ks ts)).length := by rw [List.length_take]; exact Nat.min_le_right _ _
        have z3 : (sortI (ks ts)).length = (ks ts).length := (sortI_perm _).length_eq
        have z4 : (ks ts).length = ts.length := by simp [ks]
        omega
      · rw [upd_ne hpF]; exact e4 _ _ (e23 _ _ hp)
      · rw [upd_same, hstep, hbt]
        simp
  · rintro p σ' H' ⟨e, hp, hpF, hF', u, rfl⟩
    rw [List.length_map, List.take_length] at hF'
    exact s_retN (en_tupL (ev_var rfl) (sq_of hF')) fun p2 H2 hp2 e2 h2 => q p2 H2 (fresh_back e hp2) (e.trans e2) h2
end
end Kw


set_option Elab.async false
set_option linter.all false
set_option maxRecDepth 100000
set_option maxHeartbeats 4000000
/-! Law4: the law's rounds, texts. -/
namespace Kw
open PySem PySem.Spec PyProof.Rows L2 Evl
local macro_rules
  | `(tactic| walk_at "hp") => `(tactic| first
      | exact prp (by assumption)
      | exact rfl
      | exact upd_same
      | ((with_reducible apply sq_of); first | assumption | exact upd_same)
      | ((with_reducible apply st_of); first | assumption | exact upd_same)
      | ((with_reducible apply rd_of); first | assumption | exact upd_same)
      | ((with_reducible apply ex_l); assumption; walk_at "hp")
      | ((with_reducible apply ex_t); assumption; walk_at "hp")
      | ((with_reducible apply ex_rd); assumption; walk_at "hp")
      | ((with_reducible apply ex_at); assumption; walk_at "hp")
      | ((with_reducible apply Or.inl); walk_at "hp")
      | ((with_reducible apply Or.inr); walk_at "hp")
      | ((with_reducible apply LenD.lst); walk_at "hp")
      | ((with_reducible apply LenD.tup); walk_at "hp")
      | ((with_reducible apply LenD.dic); walk_at "hp")
      | ((with_reducible apply LenD.str); walk_at "hp")
      | ((with_reducible apply mulR); decide)
      | ((with_reducible apply mulL); decide)
      | decide
      | omega)
local macro_rules
  | `(tactic| walk_at "ev") => `(tactic| ((fail_if_success (with_reducible apply ev_bad)); (fail_if_success (with_reducible apply et_bad)); (fail_if_success (with_reducible apply ea_bad)); (fail_if_success (with_reducible apply en_bad)); first
      | ((with_reducible apply ev_var); exact rfl)
      | (with_reducible exact ev_c)
      | (with_reducible exact ea_nil)
      | (with_reducible exact eo_none)
      | ((with_reducible apply eo_some) <;> try walk_at "ev")
      | ((with_reducible apply ea_cons) <;> try walk_at "ev")
      | ((with_reducible apply ev_inTup) <;> try walk_at "ev")
      | ((with_reducible apply ev_niTup) <;> try walk_at "ev")
      | ((with_reducible apply ev_ixP) <;> try walk_at "ev")
      | (with_reducible exact rv_isN)
      | (with_reducible exact rv_notN)
      | ((with_reducible apply ev_op) <;> try walk_at "ev")
      | (with_reducible exact rv_I0)
      | ((with_reducible apply rv_I) <;> try walk_at "hp")
      | ((with_reducible apply rv_eq); exact rfl)
      | ((with_reducible apply rv_ne); exact rfl)
      | ((with_reducible apply rv_addS) <;> try walk_at "hp")
      | ((with_reducible apply rv_ixL); walk_at "hp"; walk_at "hp")
      | ((with_reducible apply rv_ixT); walk_at "hp"; walk_at "hp")
      | ((with_reducible apply ev_cb) <;> try walk_at "ev")
      | ((with_reducible apply rc_len); walk_at "hp")
      | (with_reducible exact rc_ord)
      | ((with_reducible apply rc_str) <;> try walk_at "hp")
      | (with_reducible exact rc_int)
      | (with_reducible exact rc_intB)
      | (with_reducible exact rc_abs)
      | (with_reducible exact rc_max2)
      | (with_reducible exact rc_min2)
      | ((with_reducible apply ev_joinN) <;> try walk_at "ev")
      | ((with_reducible apply ev_m1) <;> try walk_at "ev")
      | ((with_reducible apply rm_strip) <;> try walk_at "hp")
      | (with_reducible exact rm_starts)
      | ((with_reducible apply rm_join) <;> try walk_at "hp")
      | ((with_reducible apply ev_slS) <;> try walk_at "ev")
      | ((with_reducible apply ev_dget) <;> try walk_at "ev")
      | ((with_reducible apply ev_din) <;> try walk_at "ev")
      | ((with_reducible apply ev_dnotin) <;> try walk_at "ev")
      | ((with_reducible apply ev_fld) <;> try walk_at "ev")
      | ((with_reducible apply et_test) <;> try walk_at "ev")
      | ((with_reducible apply et_B) <;> try walk_at "ev")
      | ((with_reducible apply et_and) <;> try walk_at "ev")
      | ((with_reducible apply et_or) <;> try walk_at "ev")
      | ((with_reducible apply et_not) <;> try walk_at "ev")
      | (with_reducible exact en_dnew)
      | (with_reducible exact et_yes)
      | ((with_reducible apply ex_tup) <;> try walk_at "ev")
      | ((with_reducible apply en_slL) <;> try walk_at "ev")
      | ((with_reducible apply en_split) <;> try walk_at "ev")
      | ((with_reducible apply en_part) <;> try walk_at "ev")
      | walk_at "hp"
      | ((with_reducible refine fun hb => ?_); try walk_at "ev")))
local macro_rules
  | `(tactic| walk_at "lcf") => `(tactic| first
      | (intro _ _ _ _ _; exact rfl)
      | (intro _ _ _ _ _; dsimp only [Cx.blk]; done)
      | (intro _ _ _ _ _; dsimp only [Cx.blk]; exact rfl))
/-- all but the dice stays; the dice stay dice -/
structure Mv (dc : Addr) (H H' : Hp) : Prop where
  ex : Exs [dc] H H'
  di : Dice dc H'
section
variable {dc : Addr} {H H1 H' : Hp}
theorem Mv.refl (d : Dice dc H) : Mv dc H H := ⟨Exs.refl _ _, d⟩
theorem Mv.trans (a : Mv dc H H1) (b : Mv dc H1 H') : Mv dc H H' := ⟨a.ex.trans b.ex, b.di⟩
theorem Mv.then (a : Mv dc H H1) (b : Ex H1 H') : Mv dc H H' := ⟨a.ex.then b, a.di.ex b⟩
theorem mv_of (d : Dice dc H) (b : Ex H H') : Mv dc H H' := ⟨exs_of b, d.ex b⟩
theorem Mv.upd (a : Mv dc H H1) {p : Addr} {o : HO} (hp : H p = none) (hd : p ≠ dc) : Mv dc H (L2.upd H1 p o) := ⟨fun x u n g => by
    have z : x ≠ p := fun z => by rw [z, hp] at g; cases g
    rw [upd_ne z]; exact a.ex x u n g, let ⟨x, y, z, g⟩ := a.di; ⟨x, y, z, by rw [upd_ne (Ne.symm hd)]; exact g⟩⟩
theorem Mv.at (a : Mv dc H H1) {p : Addr} {o : HO} (hp : H p = some o) (hd : p ≠ dc) : H1 p = some o := a.ex _ _ (by simpa using hd) hp
theorem dice_ne {p : Addr} {o : HO} (d : Dice dc H) (hp : H p = some o) (h : ∀ a b c, o ≠ .lst [a, b, c]) : p ≠ dc := fun z => by
  obtain ⟨x, y, w, g⟩ := d
  rw [z, g] at hp
  cases hp
  exact h _ _ _ rfl
theorem dice_ne_new {p : Addr} (d : Dice dc H) (hp : H p = none) : p ≠ dc := fun z => by
  obtain ⟨x, y, w, g⟩ := d
  rw [z, g] at hp
  cases hp
theorem Mv.fresh (a : Mv dc H H1) {p : Addr} (h : H1 p = none) : H p = none := by
  cases z : H p with
  | none => rfl
  | some o =>
    have g := a.at z (dice_ne_new a.di h)
    rw [h] at g
    cases g
end
section
variable {σ : L2.St} {H : Hp} {t1 t2 : TE} {Q : VK}
/-- a roll -/
theorem roll_use {dc : Addr} {n : Int} {E : XK} (h1 : Ev t1 σ H (.ref dc)) (h2 : Ev t2 σ H (.int n)) (d : Dice dc H) (h0 : 0 < n) (hn : n < 1000000000) (q : ∀ r H1, 0 ≤ r → r < n → Mv dc H H1 → Q (.int r) H1) : tCall spRoll [] E (tCons t1 (tCons t2 tNil)) σ H Q :=
  cl_use (vs := [.ref dc, .int n]) (ea_cons h1 (ea_cons h2 ea_nil)) fun H1 e1 => ⟨dc, n, rfl, d.ex e1, h0, hn, fun r H2 g0 g1 ex di => q r H2 g0 g1 ⟨(exs_of e1).trans (exs_b ex (by simp)), di⟩⟩
end
theorem atI_in {α : Type} {xs : List α} {r : Int} (h0 : 0 ≤ r) (h1 : r < (xs.length : Int)) : ∃ v, v ∈ xs ∧ atI xs r = some v := by
  obtain ⟨j, rfl⟩ : ∃ j : Nat, r = (j : Int) := ⟨r.toNat, by omega⟩
  have hj : j < xs.length := by omega
  exact ⟨xs[j], List.getElem_mem hj, atI_nat (List.getElem?_eq_getElem hj)⟩
section
variable {P : Program} {w : World} {K : PySem.W.Frag} {mg : Str → Option Value} {base : Heap} {k : Nat}
def spRounds (K : PySem.W.Frag) : Sp := fun vs H Q _ => ∃ (a : Addr) (ns : List Int), vs = [.ref a, .int 1] ∧ SqL K H a (ns.map V.int) ∧ ∀ p q H', H p = none → H q = none → p ≠ q → Ex H H' → H' p = some (.lst [.ref q]) → Dice q H' → Q (.ref p) H'
theorem law_rounds_ok (T : Md K mg base) (hk : 2 ≤ k) : CallOk P w K mg base k "_law_rounds" ["script", "most"] (spRounds K) := by
  obtain ⟨k, rfl⟩ : ∃ j, k = j + 1 := ⟨k - 1, by omega⟩
  refine T.d_law_rounds.ok (N := ["script", "most", "cells", "cell"]) sc_law_rounds (by rintro vs H Q E ⟨a, ns, rfl, -⟩; rfl) ?_
  rintro f cdv A outer s H vs Q E hr ⟨a, ns, rfl, ha, q⟩
  refine ⟨_, (pss_cons (ps_set (i := 2) sc_law_rounds.nd rfl (Or.inl rfl) (pe_slice sl_list (pv 0) po_none (po_some (pv 1))))
    (pss_cons (ps_if (pt_cmpR (op_eqP (hu64_of hr)) (pv 2) (pe_lst pa_nil) (nomark _)) (pss_one (ps_set (i := 2) sc_law_rounds.nd rfl (Or.inl rfl) (pe_lst (pa_cons pe_int pa_nil)))) pss_nil)
    (pss_one (ps_ret (pe_lcF (own := [("cell", 3)]) rfl sc_law_rounds.nd (pi_list (pv 2)) (blkOk_by (own := [("cell", 3)]) (N := ["script", "most", "cells", "cell"]) (sc := defScope st_law_rounds) (by decide +kernel)) (fun _ _ _ _ _ => (by exact (pg_name (i := 3) sc_law_rounds.nd rfl (Or.inl rfl)))) (fun _ _ _ _ _ => (by exact pts_nil)) (fun _ _ _ _ _ => (by exact (pe_c (law_dice_ok T (by omega)) hr (by rfl) (pa_cons (pv 3) pa_nil)))) (by walk_at "lcf") (by walk_at "lcf") (by walk_at "lcf")))))), ?_⟩
  refine q_asgN (en_is (en_slL (ev_var rfl) eo_none (eo_some (ev_var rfl)) ha) (congrArg HO.lst ((cutV_to _ 1).trans (List.map_take).symm))) fun C H1 hC e1 h1 => ?_
  have fin : ∀ (C : Addr) (H' : Hp) (x : Int), Ex H H' → H' C = some (.lst [.int x]) → (tRet (tLc (iList K (tVar 2)) (gName 3) tYes (tCall spDice [] E0 (tCons (tVar 3) tNil)) [3])) { nx := fun _ H' => Q .non H', rt := Q } [some (.ref a), some (.int 1), some (.ref C), none] H' := by
    intro C H2 x e02 hC2
    refine ⟨.ref C, rfl, C, rfl, ⟨[.int x], sq_of hC2⟩, fun L hL => ?_⟩
    have hLC : L ≠ C := fun z => by rw [z, hC2] at hL; cases hL
    refine lc_list (xs := [.int x]) (fun i H3 => Exb L H2 H3 ∧ ((i = 0 ∧ H3 L = some (.lst [])) ∨ (i = 1 ∧ ∃ p, H2 p = none ∧ p ≠ L ∧ H3 L = some (.lst [.ref p]) ∧ Dice p H3))) ⟨exb_upd (Exb.refl _ _), .inl ⟨rfl, upd_same⟩⟩ (fun i H3 _ h => sq_of (h.1 _ _ (Ne.symm hLC) hC2)) ?_ ?_
    · rintro i v H3 hi ⟨ex, hc⟩
      obtain rfl : i = 0 := by
        have := (List.getElem?_eq_some_iff.mp hi).1
        simpa using this
      cases hi
      rcases hc with ⟨_, hl⟩ | ⟨h, _⟩
      · refine ⟨rfl, yes_raw ?_⟩
        refine cl_use (vs := [.int x]) (ea_cons (ev_var rfl) ea_nil) fun H4 e4 => ⟨x, rfl, fun p H5 hp e5 hd => ⟨_, e5 _ _ (e4 _ _ hl), by decide, ?_⟩⟩
        have hpL : p ≠ L := fun z => by rw [z, e4 _ _ hl] at hp; cases hp
        refine ⟨exb_upd ((ex.trans (exb_of e4)).trans (exb_of e5)), .inr ⟨rfl, p, ?_, hpL, upd_same, ?_⟩⟩
        · cases z : H2 p with
          | none => rfl
          | some o =>
            have := e4 _ _ (ex _ _ hpL z)
            rw [hp] at this
            cases this
        · obtain ⟨x1, x2, x3, g⟩ := hd
          exact ⟨x1, x2, x3, by rw [upd_ne hpL]; exact g⟩
      · cases h
    · rintro H3 ⟨ex, hc⟩
      rcases hc with ⟨h, _⟩ | ⟨_, p, hp, hpL, hl, hd⟩
      · cases h
      · exact q L p H3 (fresh_back e02 hL) (fresh_back e02 hp) (Ne.symm hpL) (e02.trans (exb_ex hL ex)) hl hd
  cases ns with
  | nil =>
    refine q_when (b := true) (et_test (ev_eqNil (xs := []) (ev_var rfl) (sq_of h1) (fun x hx => by cases hx))) (fun _ H2 e2 => s_asgN (en_lst (ws := [.int 0]) (ea_cons ev_c ea_nil) (by decide)) fun C2 H3 hC2 e3 h3 => fin C2 H3 0 ((e1.trans e2).trans e3) h3) nofun
  | cons x r =>
    refine q_when (b := false) (et_test (ev_eqNil (xs := [.int x]) (ev_var rfl) (sq_of h1) (flat_ints' [x]))) nofun fun _ H2 e2 => fin C H2 x (e1.trans e2) (e2 _ _ h1)
end
end Kw


set_option Elab.async false
set_option linter.all false
set_option maxRecDepth 100000
set_option maxHeartbeats 4000000
/-! Law5: the law's texts. -/
namespace Kw
open PySem PySem.Spec PyProof.Rows L2 Evl
local macro_rules
  | `(tactic| walk_at "hp") => `(tactic| first
      | exact prp (by assumption)
      | exact rfl
      | exact upd_same
      | ((with_reducible apply sq_of); first | assumption | exact upd_same)
      | ((with_reducible apply st_of); first | assumption | exact upd_same)
      | ((with_reducible apply rd_of); first | assumption | exact upd_same)
      | ((with_reducible apply ex_l); assumption; walk_at "hp")
      | ((with_reducible apply ex_t); assumption; walk_at "hp")
      | ((with_reducible apply ex_rd); assumption; walk_at "hp")
      | ((with_reducible apply ex_at); assumption; walk_at "hp")
      | ((with_reducible apply Or.inl); walk_at "hp")
      | ((with_reducible apply Or.inr); walk_at "hp")
      | ((with_reducible apply LenD.lst); walk_at "hp")
      | ((with_reducible apply LenD.tup); walk_at "hp")
      | ((with_reducible apply LenD.dic); walk_at "hp")
      | ((with_reducible apply LenD.str); walk_at "hp")
      | ((with_reducible apply mulR); decide)
      | ((with_reducible apply mulL); decide)
      | decide
      | omega)
local macro_rules
  | `(tactic| walk_at "ev") => `(tactic| ((fail_if_success (with_reducible apply ev_bad)); (fail_if_success (with_reducible apply et_bad)); (fail_if_success (with_reducible apply ea_bad)); (fail_if_success (with_reducible apply en_bad)); first
      | ((with_reducible apply ev_var); exact rfl)
      | (with_reducible exact ev_c)
      | (with_reducible exact ea_nil)
      | (with_reducible exact eo_none)
      | ((with_reducible apply eo_some) <;> try walk_at "ev")
      | ((with_reducible apply ea_cons) <;> try walk_at "ev")
      | ((with_reducible apply ev_inTup) <;> try walk_at "ev")
      | ((with_reducible apply ev_niTup) <;> try walk_at "ev")
      | ((with_reducible apply ev_ixP) <;> try walk_at "ev")
      | (with_reducible exact rv_isN)
      | (with_reducible exact rv_notN)
      | ((with_reducible apply ev_op) <;> try walk_at "ev")
      | (with_reducible exact rv_I0)
      | ((with_reducible apply rv_I) <;> try walk_at "hp")
      | ((with_reducible apply rv_eq); exact rfl)
      | ((with_reducible apply rv_ne); exact rfl)
      | ((with_reducible apply rv_addS) <;> try walk_at "hp")
      | ((with_reducible apply rv_ixL); walk_at "hp"; walk_at "hp")
      | ((with_reducible apply rv_ixT); walk_at "hp"; walk_at "hp")
      | ((with_reducible apply ev_cb) <;> try walk_at "ev")
      | ((with_reducible apply rc_len); walk_at "hp")
      | (with_reducible exact rc_ord)
      | ((with_reducible apply rc_str) <;> try walk_at "hp")
      | (with_reducible exact rc_int)
      | (with_reducible exact rc_intB)
      | (with_reducible exact rc_abs)
      | (with_reducible exact rc_max2)
      | (with_reducible exact rc_min2)
      | ((with_reducible apply ev_joinN) <;> try walk_at "ev")
      | ((with_reducible apply ev_m1) <;> try walk_at "ev")
      | ((with_reducible apply rm_strip) <;> try walk_at "hp")
      | (with_reducible exact rm_starts)
      | ((with_reducible apply rm_join) <;> try walk_at "hp")
      | ((with_reducible apply ev_slS) <;> try walk_at "ev")
      | ((with_reducible apply ev_dget) <;> try walk_at "ev")
      | ((with_reducible apply ev_din) <;> try walk_at "ev")
      | ((with_reducible apply ev_dnotin) <;> try walk_at "ev")
      | ((with_reducible apply ev_fld) <;> try walk_at "ev")
      | ((with_reducible apply et_test) <;> try walk_at "ev")
      | ((with_reducible apply et_B) <;> try walk_at "ev")
      | ((with_reducible apply et_and) <;> try walk_at "ev")
      | ((with_reducible apply et_or) <;> try walk_at "ev")
      | ((with_reducible apply et_not) <;> try walk_at "ev")
      | (with_reducible exact en_dnew)
      | (with_reducible exact et_yes)
      | ((with_reducible apply ex_tup) <;> try walk_at "ev")
      | ((with_reducible apply en_slL) <;> try walk_at "ev")
      | ((with_reducible apply en_split) <;> try walk_at "ev")
      | ((with_reducible apply en_part) <;> try walk_at "ev")
      | walk_at "hp"
      | ((with_reducible refine fun hb => ?_); try walk_at "ev")))
local macro_rules
  | `(tactic| walk_at "lcf") => `(tactic| first
      | (intro _ _ _ _ _; exact rfl)
      | (intro _ _ _ _ _; dsimp only [Cx.blk]; done)
      | (intro _ _ _ _ _; dsimp only [Cx.blk]; exact rfl))
section
variable {σ : L2.St} {H : Hp} {ta : TA} {t1 t2 te : TE} {K : PySem.W.Frag}
/-- one of a list just made, by a roll -/
theorem pick_use {dc : Addr} {xs : List V} {n : Int} {E : XK} {Q : VK} (ha : EvA ta σ H xs) (hl : xs.length ≤ 100000) (h1 : Ev t1 σ H (.ref dc)) (h2 : Ev t2 σ H (.int n)) (d : Dice dc H) (h0 : 0 < n) (hn : n ≤ (xs.length : Int)) (q : ∀ v H1, v ∈ xs → Mv dc H H1 → Q v H1) :
    tOp (rIxL K) (tLst ta) (tCall spRoll [] E (tCons t1 (tCons t2 tNil))) σ H Q :=
  ha H (Ex.refl H) _ fun H1 e1 => ⟨sz_of hl, fun p hp => by
    have e2 := e1.trans (Ex.new (o := .lst xs) hp)
    refine roll_use (ev_mono h1 e2) (ev_mono h2 e2) (d.ex e2) h0 (by omega) fun r H2 g0 g1 m => ?_
    obtain ⟨v, hv, hr⟩ := atI_in (xs := xs) g0 (by omega)
    have pd : p ≠ dc := dice_ne_new (d.ex e1) hp
    exact ⟨p, xs, r, v, rfl, rfl, sq_of (m.at upd_same pd), hr, q v H2 hv ((mv_of d e2).trans m)⟩⟩
/-- a roll asked for one number -/
theorem rollT {dc : Addr} {n c : Int} {E : XK} {Q : Bool → Hp → Prop} (h1 : Ev t1 σ H (.ref dc)) (h2 : Ev t2 σ H (.int n)) (d : Dice dc H) (h0 : 0 < n) (hn : n < 1000000000) (q : ∀ b H1, Mv dc H H1 → Q b H1) : tTest (tOp rEq (tCall spRoll [] E (tCons t1 (tCons t2 tNil))) (tC (.int c))) σ H Q :=
  roll_use h1 h2 d h0 hn fun r H1 _ _ m => ⟨rfl, _, rfl, q _ H1 m⟩
end
section
variable {P : Program} {w : World} {K : PySem.W.Frag} {mg : Str → Option Value} {base : Heap} {k : Nat}
def spLawText : Sp := fun vs H Q _ => ∃ dc : Addr, vs = [.ref dc] ∧ Dice dc H ∧ ∀ x H', x.length ≤ 200 → Mv dc H H' → Q (.str x) H'
theorem law_text_ok (T : Md K mg base) (hk : 2 ≤ k) : CallOk P w K mg base k "_law_text" ["dice"] spLawText := by
  obtain ⟨k, rfl⟩ : ∃ j, k = j + 1 := ⟨k - 1, by omega⟩
  refine T.d_law_text.ok (N := ["dice", "signs", "found", "k"]) sc_law_text (by rintro vs H Q E ⟨dc, rfl, -⟩; rfl) ?_
  rintro f cdv A outer s H vs Q E hr ⟨dc, rfl, hd, q⟩
  refine ⟨_, (pss_cons (ps_set (i := 1) sc_law_text.nd rfl (Or.inr rfl) (pe_ix ix_list (pe_lst (pa_cons pe_str (pa_cons pe_str (pa_cons pe_str pa_nil)))) (pe_c (law_roll_ok T (by omega)) hr (by rfl) (pa_cons (pv 0) (pa_cons pe_int pa_nil))) (fun _ _ => rfl)))
    (pss_cons (ps_set (i := 2) sc_law_text.nd rfl (Or.inl rfl) (s_join pe_str (pe_lcF (own := [("k", 3)]) rfl sc_law_text.nd (pi_range1 rfl T.b.range (pa_cons (pe_ix ix_list (pe_lst (pa_cons (pe_c (law_roll_ok T (by omega)) hr (by rfl) (pa_cons (pv 0) (pa_cons pe_int pa_nil))) (pa_cons (pe_c (law_roll_ok T (by omega)) hr (by rfl) (pa_cons (pv 0) (pa_cons pe_int pa_nil))) pa_nil))) (pe_c (law_roll_ok T (by omega)) hr (by rfl) (pa_cons (pv 0) (pa_cons pe_int pa_nil))) (fun _ _ => rfl)) pa_nil)) (blkOk_by (own := [("k", 3)]) (N := ["dice", "signs", "found", "k"]) (sc := defScope st_law_text) (by decide +kernel)) (fun _ _ _ _ _ => (by exact (pg_name (i := 3) sc_law_text.nd rfl (Or.inl rfl)))) (fun _ _ _ _ _ => (by exact pts_nil)) (fun _ _ _ _ _ => (by exact (pe_ix ix_str (pv 1) (pe_c (law_roll_ok T (by omega)) hr (by rfl) (pa_cons (pv 0) (pa_cons (b_len T.b (pa_cons (pv 1) pa_nil)) pa_nil))) (fun _ _ => rfl)))) (by walk_at "lcf") (by walk_at "lcf") (by walk_at "lcf"))))
    (pss_one (ps_ret (pe_ifExp (pt_cmpR op_eq (pe_c (law_roll_ok T (by omega)) hr (by rfl) (pa_cons (pv 0) (pa_cons pe_int pa_nil))) pe_int (nomark _)) (pe_op op_add_str (pv 2) (pe_revS (pv 2))) (pv 2)))))), ?_⟩
  dsimp only
  refine pick_use (xs := [.str "ab", .str "ab=. -/", .str "The quick brown fox\n\t\\'0123456789#"]) (ea_cons ev_c (ea_cons ev_c (ea_cons ev_c ea_nil))) (by decide) (ev_var rfl) ev_c hd (by decide) (by decide) fun v H1 hv m1 => ?_
  obtain ⟨y, rfl, hy0, hy1⟩ : ∃ y : Str, v = .str y ∧ 0 < y.length ∧ y.length ≤ 100 := by
    simp only [List.mem_cons, List.not_mem_nil, or_false] at hv
    rcases hv with rfl | rfl | rfl
    · exact ⟨_, rfl, by decide, by decide⟩
    · exact ⟨_, rfl, by decide, by decide⟩
    · exact ⟨_, rfl, by decide +kernel, by decide +kernel⟩
  refine ⟨⟨_, rfl⟩, ?_⟩
  refine roll_use (dc := dc) (n := 20) (ev_var rfl) ev_c m1.di (by decide) (by decide) fun r1 H2 a0 a1 m2 => ?_
  refine roll_use (dc := dc) (n := 100) (ev_var rfl) ev_c m2.di (by decide) (by decide) fun r2 H3 b0 b1 m3 => ?_
  refine ⟨sz_of (n := 2) (by decide), fun p hp => ?_⟩
  have pd : p ≠ dc := dice_ne_new m3.di hp
  have m4 : Mv dc H3 (L2.upd H3 p (.lst [.int r1, .int r2])) := mv_of m3.di (Ex.new hp)
  refine roll_use (dc := dc) (n := 2) (ev_var rfl) ev_c m4.di (by decide) (by decide) fun r3 H5 c0 c1 m5 => ?_
  obtain ⟨v, hv, hr3⟩ := atI_in (xs := [V.int r1, V.int r2]) c0 (by exact c1)
  obtain ⟨n, rfl, hn⟩ : ∃ n : Nat, v = .int (n : Int) ∧ n ≤ 100 := by
    simp only [List.mem_cons, List.not_mem_nil, or_false] at hv
    rcases hv with rfl | rfl
    · exact ⟨r1.toNat, by congr 1; omega, by omega⟩
    · exact ⟨r2.toNat, by congr 1; omega, by omega⟩
  refine ⟨p, _, r3, _, rfl, rfl, sq_of (m5.at upd_same pd), hr3, ?_⟩
  have M5 := (((m1.trans m2).trans m3).trans m4).trans m5
  refine ⟨_, rfl, by omega, by omega, fun L hL => ?_⟩
  have hLd : L ≠ dc := dice_ne_new M5.di hL
  refine lc_range (fun i H6 => Mv dc H H6 ∧ H L = none ∧ ∃ ys : List Str, H6 L = some (.lst (ys.map V.str)) ∧ ys.length = i ∧ ∀ y ∈ ys, y.length ≤ 1) ⟨M5.then (Ex.new hL), ?_, [], upd_same, rfl, fun _ h => by cases h⟩ ?_ ?_
  · cases z : H L with
    | none => rfl
    | some o =>
      have := M5.at z hLd
      rw [hL] at this
      cases this
  · rintro i H6 hi ⟨m6, hLn, ys, hys, hyl, hy⟩
    refine ⟨rfl, yes_raw ?_⟩
    refine ⟨.str y, rfl, ?_⟩
    refine roll_use (dc := dc) (n := (y.length : Int)) (ev_var rfl) (ev_cb (ea_cons (ev_var rfl) ea_nil) (rc_len (.str (sz_of (by omega))))) m6.di (by omega) (by omega) fun r H7 g0 g1 m7 => ?_
    obtain ⟨c, _, hc⟩ := atI_in (xs := y.cps.toList) g0 (by exact g1)
    refine ⟨y, r, c, rfl, rfl, sz_of (by omega), hc, _, m7.at hys hLd, by rw [List.length_map]; exact sz_of (n := ys.length + 1) (by omega), (m6.trans m7).upd hLn hLd, hLn, ys ++ [⟨#[c]⟩], by rw [List.map_append]; exact upd_same, by rw [List.length_append, hyl]; rfl, fun z hz => ?_⟩
    rcases List.mem_append.mp hz with hz | hz
    · exact hy z hz
    · rw [List.mem_singleton.mp hz]; exact Nat.le_refl 1
  · rintro H6 ⟨m6, hLn, ys, hys, hyl, hy⟩
    refine ⟨_, L, ys, rfl, rfl, .inl (sq_of hys), join_size (a := "") (b := 1) (n := 100) (by decide) hy (by omega) (by decide), ?_⟩
    generalize hx : Txt.join "" ys = x
    have hxl : x.length ≤ 100 := by
      rw [← hx]
      refine Nat.le_trans (join_len "" ys) ?_
      have : ∀ ys : List Str, (∀ y ∈ ys, y.length ≤ 1) → (ys.map (·.length)).sum ≤ ys.length := by
        intro ys
        induction ys with
        | nil => intro _; exact Nat.le_refl 0
        | cons a r ih =>
          intro h
          have h1 := h a (List.mem_cons_self ..)
          have h2 := ih fun y hy => h y (List.mem_cons_of_mem _ hy)
          simp only [List.map_cons, List.sum_cons, List.length_cons]
          omega
      have h1 := this ys hy
      have h2 : ys.length * ("" : Str).length = 0 := by rw [show ("" : Str).length = 0 from rfl, Nat.mul_zero]
      omega
    refine rollT (dc := dc) (n := 5) (ev_var rfl) ev_c m6.di (by decide) (by decide) fun b H7 m7 => ?_
    have M7 := m6.trans m7
    cases b with
    | false => exact ⟨_, rfl, q x H7 (by omega) M7⟩
    | true => exact ⟨_, rfl, _, rfl, x, rfl, sz_of (by omega), fun z hz => ⟨x, z, rfl, rfl, sz_of (by omega), q (x ++ z) H7 (by rw [len_tl', TL.tl_append, List.length_append, ← len_tl', ← len_tl']; omega) M7⟩⟩
end
end Kw


set_option Elab.async false
set_option linter.all false
set_option maxRecDepth 100000
set_option maxHeartbeats 4000000
/-! Law6: the law's next table. -/
namespace Kw
open PySem PySem.Spec PyProof.Rows L2 Evl
local macro_rules
  | `(tactic| walk_at "hp") => `(tactic| first
      | exact prp (by assumption)
      | exact rfl
      | exact upd_same
      | ((with_reducible apply sq_of); first | assumption | exact upd_same)
      | ((with_reducible apply st_of); first | assumption | exact upd_same)
      | ((with_reducible apply rd_of); first | assumption | exact upd_same)
      | ((with_reducible apply ex_l); assumption; walk_at "hp")
      | ((with_reducible apply ex_t); assumption; walk_at "hp")
      | ((with_reducible apply ex_rd); assumption; walk_at "hp")
      | ((with_reducible apply ex_at); assumption; walk_at "hp")
      | ((with_reducible apply Or.inl); walk_at "hp")
      | ((with_reducible apply Or.inr); walk_at "hp")
      | ((with_reducible apply LenD.lst); walk_at "hp")
      | ((with_reducible apply LenD.tup); walk_at "hp")
      | ((with_reducible apply LenD.dic); walk_at "hp")
      | ((with_reducible apply LenD.str); walk_at "hp")
      | ((with_reducible apply mulR); decide)
      | ((with_reducible apply mulL); decide)
      | decide
      | omega)
local macro_rules
  | `(tactic| walk_at "ev") => `(tactic| ((fail_if_success (with_reducible apply ev_bad)); (fail_if_success (with_reducible apply et_bad)); (fail_if_success (with_reducible apply ea_bad)); (fail_if_success (with_reducible apply en_bad)); first
      | ((with_reducible apply ev_var); exact rfl)
      | (with_reducible exact ev_c)
      | (with_reducible exact ea_nil)
      | (with_reducible exact eo_none)
      | ((with_reducible apply eo_some) <;> try walk_at "ev")
      | ((with_reducible apply ea_cons) <;> try walk_at "ev")
      | ((with_reducible apply ev_inTup) <;> try walk_at "ev")
      | ((with_reducible apply ev_niTup) <;> try walk_at "ev")
      | ((with_reducible apply ev_ixP) <;> try walk_at "ev")
      | (with_reducible exact rv_isN)
      | (with_reducible exact rv_notN)
      | ((with_reducible apply ev_op) <;> try walk_at "ev")
      | (with_reducible exact rv_I0)
      | ((with_reducible apply rv_I) <;> try walk_at "hp")
      | ((with_reducible apply rv_eq); exact rfl)
      | ((with_reducible apply rv_ne); exact rfl)
      | ((with_reducible apply rv_addS) <;> try walk_at "hp")
      | ((with_reducible apply rv_ixL); walk_at "hp"; walk_at "hp")
      | ((with_reducible apply rv_ixT); walk_at "hp"; walk_at "hp")
      | ((with_reducible apply ev_cb) <;> try walk_at "ev")
      | ((with_reducible apply rc_len); walk_at "hp")
      | (with_reducible exact rc_ord)
      | ((with_reducible apply rc_str) <;> try walk_at "hp")
      | (with_reducible exact rc_int)
      | (with_reducible exact rc_intB)
      | (with_reducible exact rc_abs)
      | (with_reducible exact rc_max2)
      | (with_reducible exact rc_min2)
      | ((with_reducible apply ev_joinN) <;> try walk_at "ev")
      | ((with_reducible apply ev_m1) <;> try walk_at "ev")
      | ((with_reducible apply rm_strip) <;> try walk_at "hp")
      | (with_reducible exact rm_starts)
      | ((with_reducible apply rm_join) <;> try walk_at "hp")
      | ((with_reducible apply ev_slS) <;> try walk_at "ev")
      | ((with_reducible apply ev_dget) <;> try walk_at "ev")
      | ((with_reducible apply ev_din) <;> try walk_at "ev")
      | ((with_reducible apply ev_dnotin) <;> try walk_at "ev")
      | ((with_reducible apply ev_fld) <;> try walk_at "ev")
      | ((with_reducible apply et_test) <;> try walk_at "ev")
      | ((with_reducible apply et_B) <;> try walk_at "ev")
      | ((with_reducible apply et_and) <;> try walk_at "ev")
      | ((with_reducible apply et_or) <;> try walk_at "ev")
      | ((with_reducible apply et_not) <;> try walk_at "ev")
      | (with_reducible exact en_dnew)
      | (with_reducible exact et_yes)
      | ((with_reducible apply ex_tup) <;> try walk_at "ev")
      | ((with_reducible apply en_slL) <;> try walk_at "ev")
      | ((with_reducible apply en_split) <;> try walk_at "ev")
      | ((with_reducible apply en_part) <;> try walk_at "ev")
      | walk_at "hp"
      | ((with_reducible refine fun hb => ?_); try walk_at "ev")))
local macro_rules
  | `(tactic| walk_at "lcf") => `(tactic| first
      | (intro _ _ _ _ _; exact rfl)
      | (intro _ _ _ _ _; dsimp only [Cx.blk]; done)
      | (intro _ _ _ _ _; dsimp only [Cx.blk]; exact rfl))
/-- the law's tables -/
structure LTb (F : Tb) : Prop where
  nd : (ks F).Nodup
  sub : ∀ p ∈ ks F, p ∈ PATHS
  txt : ∀ r ∈ F, r.2.length ≤ 200
theorem LTb.nil : LTb [] := ⟨List.nodup_nil, fun _ h => (nomatch h), fun _ h => (nomatch h)⟩
theorem LTb.len {F : Tb} (h : LTb F) : F.length ≤ 12 := by
  have z := nd_sub_len h.nd h.sub
  rw [show PATHS.length = 12 from rfl] at z
  unfold ks at z
  rwa [List.length_map] at z
theorem LTb.put {F : Tb} (h : LTb F) {p x : Str} (hp : p ∈ PATHS) (hx : x.length ≤ 200) : LTb (pu F p x) := ⟨nd_pu h.nd, fun j hj => (mem_ks_pu.mp hj).elim (fun e => e ▸ hp) (h.sub j), fun r hr => by
  unfold pu at hr
  split at hr
  · obtain ⟨y, hy, rfl⟩ := List.mem_map.mp hr
    by_cases e : y.1 = p
    · simp only [e, if_true]; exact hx
    · simp only [e, if_false]; exact h.txt y hy
  · rcases List.mem_append.mp hr with hr | hr
    · exact h.txt r hr
    · rw [List.mem_singleton.mp hr]; exact hx⟩
theorem LTb.filter {F : Tb} (h : LTb F) (b : Str × Str → Bool) : LTb (F.filter b) := ⟨(List.filter_sublist.map _).nodup h.nd, fun j hj => by
  obtain ⟨r, hr, rfl⟩ := List.mem_map.mp hj
  exact h.sub _ (List.mem_map.mpr ⟨r, (List.mem_filter.mp hr).1, rfl⟩), fun r hr => h.txt r (List.mem_filter.mp hr).1⟩
theorem LTb.zip {ps xs : List Str} (n : ps.Nodup) (hs : ∀ p ∈ ps, p ∈ PATHS) (hx : ∀ x ∈ xs, x.length ≤ 200) : LTb (ps.zip xs) := ⟨by
    have e : ∀ (ps xs : List Str), (ps.zip xs).map Prod.fst = ps.take xs.length := by
      intro ps
      induction ps with
      | nil => intro xs; cases xs <;> rfl
      | cons a r ih =>
        intro xs
        cases xs with
        | nil => rfl
        | cons b u => rw [List.zip_cons_cons, List.map_cons, ih]; rfl
    show ((ps.zip xs).map Prod.fst).Nodup
    rw [e]
    exact n.sublist (List.take_sublist ..), fun j hj => by
    obtain ⟨r, hr, rfl⟩ := List.mem_map.mp hj
    exact hs _ (List.of_mem_zip hr).1, fun r hr => hx _ (List.of_mem_zip hr).2⟩
section
variable {σ : L2.St} {H : Hp} {tl t1 t2 te : TE} {K : PySem.W.Frag}
theorem en_revN {xs : List V} (h : EvN te σ H (.lst xs)) : EvN (tRevL K te) σ H (.lst xs.reverse) := fun H1 e Q q => h H1 e _ fun p H2 hn e2 hp => ⟨p, xs, rfl, sq_of hp, fun l hl => q l _ (fresh_back e2 hl) (e2.trans (Ex.new hl)) upd_same⟩
theorem en_zip {kl : List Key} {ys : List V} {b : Addr} (h : EvN t1 σ H (.lst (kl.map kV))) (h2 : Ev t2 σ H (.ref b)) (hb : SqL K H b ys) : EvN (tDictZip K (tCons t1 (tCons t2 tNil))) σ H (.dK (mergeK [] (kl.zip ys))) := fun H1 e Q q =>
  h H1 e _ fun p H2 _ e2 hp => h2 H2 (e.trans e2) _ fun H3 e3 => ⟨p, b, kl, ys, rfl, ex_l e3 (sq_of hp), ex_l ((e.trans e2).trans e3) hb, fun l hl => q l _ (fresh_back (e2.trans e3) hl) ((e2.trans e3).trans (Ex.new hl)) upd_same⟩
/-- a test that rolls: what it says if it holds -/
def EtM (dc : Addr) (t : TT) (σ : L2.St) (H : Hp) (R : Prop) : Prop := ∀ Q : Bool → Hp → Prop, (∀ b H1, Mv dc H H1 → (b = true → R) → Q b H1) → t σ H Q
theorem etm_of {dc : Addr} {t : TT} {b : Bool} {R : Prop} (d : Dice dc H) (h : EvT t σ H b) (r : b = true → R) : EtM dc t σ H R := fun _ q => h H (Ex.refl H) _ fun H1 e => q b H1 (mv_of d e) r
theorem etm_roll {dc : Addr} {n c : Int} {E : XK} (h1 : Ev t1 σ H (.ref dc)) (h2 : Ev t2 σ H (.int n)) (d : Dice dc H) (h0 : 0 < n) (hn : n < 1000000000) : EtM dc (tTest (tOp rEq (tCall spRoll [] E (tCons t1 (tCons t2 tNil))) (tC (.int c)))) σ H True := fun _ q => rollT h1 h2 d h0 hn fun b H1 m => q b H1 m fun _ => trivial
theorem etm_and {dc : Addr} {t u : TT} {R S : Prop} (h1 : EtM dc t σ H R) (h2 : ∀ H1, Mv dc H H1 → EtM dc u σ H1 S) : EtM dc (tAnd t u) σ H S := fun Q q => h1 _ fun b H1 m1 _ => by
  cases b with
  | false => exact q false H1 m1 nofun
  | true => exact h2 H1 m1 _ fun b H2 m2 h => q b H2 (m1.trans m2) h
theorem whenM {dc : Addr} {t : TT} {a b : TS} {D : Ends} {R : Prop} (h : EtM dc t σ H R) (h1 : R → ∀ H1, Mv dc H H1 → a D σ H1) (h2 : ∀ H1, Mv dc H H1 → b D σ H1) : tIfS t a b D σ H := h _ fun c H1 m r => by
  cases c with
  | false => exact h2 H1 m
  | true => exact h1 (r rfl) H1 m
/-- one of a list that is made here, by a roll -/
theorem pick_N {dc : Addr} {xs : List V} {n : Int} {E : XK} {Q : VK} (ha : EvN tl σ H (.lst xs)) (h1 : Ev t1 σ H (.ref dc)) (h2 : Ev t2 σ H (.int n)) (d : Dice dc H) (h0 : 0 < n) (hb : n < 1000000000) (hn : n ≤ (xs.length : Int)) (q : ∀ v H1, v ∈ xs → Mv dc H H1 → Q v H1) :
    tOp (rIxL K) tl (tCall spRoll [] E (tCons t1 (tCons t2 tNil))) σ H Q :=
  ha.use fun p H1 hp e1 hl => by
    refine roll_use (ev_mono h1 e1) (ev_mono h2 e1) (d.ex e1) h0 hb fun r H2 g0 g1 m => ?_
    obtain ⟨v, hv, hr⟩ := atI_in (xs := xs) g0 (by omega)
    have pd : p ≠ dc := dice_ne_new d hp
    exact ⟨p, xs, r, v, rfl, rfl, sq_of (m.at hl pd), hr, q v H2 hv ((mv_of d e1).trans m)⟩
end
section
variable {P : Program} {w : World} {K : PySem.W.Frag} {mg : Str → Option Value} {base : Heap} {k : Nat}
def spLawNext : Sp := fun vs H Q _ => ∃ (dc t : Addr) (F : Tb), vs = [.ref dc, .ref t] ∧ Dice dc H ∧ H t = some (.dK (tD F)) ∧ LTb F ∧ ∀ p G H', H p = none → Mv dc H H' → H' p = some (.dK (tD G)) → LTb G → Q (.ref p) H'
theorem law_next_ok (T : Md K mg base) (hk : 3 ≤ k) : CallOk P w K mg base k "_law_next" ["dice", "table"] spLawNext := by
  obtain ⟨k, rfl⟩ : ∃ j, k = j + 1 := ⟨k - 1, by omega⟩
  refine T.d_law_next.ok (N := ["dice", "table", "kind", "texts", "found", "turn", "path", "one"]) sc_law_next (by rintro vs H Q E ⟨dc, t, F, rfl, -⟩; rfl) ?_
  rintro f cdv A outer s H vs Q E hr ⟨dc, t, F, rfl, hd, ht, ok, q⟩
  refine ⟨_, (pss_cons (ps_set (i := 2) sc_law_next.nd rfl (Or.inl rfl) (pe_c (law_roll_ok T (by omega)) hr (by rfl) (pa_cons (pv 0) (pa_cons pe_int pa_nil))))
    (pss_cons (ps_if (pt_cmpR op_eq (pv 2) pe_int (nomark _)) (pss_one (ps_ret pe_dnewK)) pss_nil)
    (pss_cons (ps_if (PW.pt (pw_and (pt_cmpR op_eq (pv 2) pe_int (nomark _)) (pw_and1 (pt_cmpR (op_neM (hu64_of hr)) (pv 1) pe_dnewK (nomark _))))) (pss_cons (ps_setLcF (own := [("path", 6)]) (i := 3) rfl sc_law_next.nd rfl rfl (sw_true rfl rfl rfl (by decide +kernel)) (pi_list (b_sortedD T.b (hu64_of hr) (pa_cons (pv 1) pa_nil))) (blkOk_by (own := [("path", 6)]) (N := ["dice", "table", "kind", "texts", "found", "turn", "path", "one"]) (sc := defScope st_law_next) (by decide +kernel)) (fun _ _ _ _ _ => (by exact (pg_name (i := 6) sc_law_next.nd rfl (Or.inl rfl)))) (fun _ _ _ _ _ => (by exact pts_nil)) (fun _ _ _ _ _ => (by exact (pe_dget (hu_of hr) (pv 1) (pv 6) (fun _ _ => rfl)))) (by walk_at "lcf") (by walk_at "lcf") (by walk_at "lcf"))
      (pss_one (ps_ret (pe_dictzip T.b (pa_cons (pe_revL (pe_c0 (law_paths_ok T (by omega)) hr (by rfl))) (pa_cons (pv 3) pa_nil)))))) pss_nil)
    (pss_cons (ps_set (i := 4) sc_law_next.nd rfl (Or.inr rfl) (b_dictD T.b (pa_cons (pv 1) pa_nil)))
    (pss_cons (ps_for PassesOwn.never rfl (pi_range1 rfl T.b.range (pa_cons (pe_op op_add pe_int (pe_c (law_roll_ok T (by omega)) hr (by rfl) (pa_cons (pv 0) (pa_cons pe_int pa_nil)))) pa_nil)) (pg_name (i := 5) sc_law_next.nd rfl (Or.inl rfl))
      (pss_cons (ps_set (i := 6) sc_law_next.nd rfl (Or.inr rfl) (pe_ix ix_list (pe_c0 (law_paths_ok T (by omega)) hr (by rfl)) (pe_c (law_roll_ok T (by omega)) hr (by rfl) (pa_cons (pv 0) (pa_cons pe_int pa_nil))) (fun _ _ => rfl)))
      (pss_one (ps_if (PW.pt (pw_and (pt_cmp (pc_din (hu_of hr) (pv 6) (pv 4))) (pw_and1 (pt_cmpR op_eq (pe_c (law_roll_ok T (by omega)) hr (by rfl) (pa_cons (pv 0) (pa_cons pe_int pa_nil))) pe_int (nomark _))))) (pss_one (ps_set (i := 4) sc_law_next.nd rfl (Or.inr rfl) (b_dictL T.b (pa_cons (pe_un (pe_lcF (own := [("one", 7)]) rfl sc_law_next.nd (pi_keys (pe_lkA (pv 4))) (blkOk_by (own := [("one", 7)]) (N := ["dice", "table", "kind", "texts", "found", "turn", "path", "one"]) (sc := defScope st_law_next) (by decide +kernel)) (fun _ _ _ _ _ => (by exact (pg_name (i := 7) sc_law_next.nd rfl (Or.inl rfl)))) (fun _ _ _ _ _ => (by exact (pts_one (pt_cmpR op_ne (pv 7) (pv 6) (nomark _))))) (fun _ _ _ _ _ => (by exact (pe_tup (pa_cons (pv 7) (pa_cons (pe_dget (hu_of hr) (pv 4) (pv 7) (fun _ _ => rfl)) pa_nil))))) (by walk_at "lcf") (by walk_at "lcf") (by walk_at "lcf"))) pa_nil)))) (pss_one (ps_if (PW.pt (pw_and (pt_cmpR op_eq (pe_c (law_roll_ok T (by omega)) hr (by rfl) (pa_cons (pv 0) (pa_cons pe_int pa_nil))) pe_int (nomark _)) (pw_and1 (pt_cmpR (op_neM (hu64_of hr)) (pv 1) pe_dnewK (nomark _))))) (pss_one (ps_dput (hu_of hr) (pv 4) (pv 6) (pe_dget (hu_of hr) (pv 1) (pe_ix ix_list (b_sortedD T.b (hu64_of hr) (pa_cons (pv 1) pa_nil)) (pe_c (law_roll_ok T (by omega)) hr (by rfl) (pa_cons (pv 0) (pa_cons (b_lenD T.b (pa_cons (pv 1) pa_nil)) pa_nil))) (fun _ _ => rfl)) (fun _ _ => rfl)) rfl)) (pss_one (ps_dput (hu_of hr) (pv 4) (pv 6) (pe_c (law_text_ok T (by omega)) hr (by rfl) (pa_cons (pv 0) pa_nil)) rfl))))))))
    (pss_one (ps_ret (pv 4)))))))), ?_⟩
  have htd : t ≠ dc := dice_ne hd ht (fun _ _ _ => by simp)
  refine roll_use (dc := dc) (n := 12) (ev_var rfl) ev_c hd (by decide) (by decide) fun r H1 _ _ m1 => ?_
  have ht1 : H1 t = some (.dK (tD F)) := m1.at ht htd
  refine q_when (b := decide (V.int r = V.int 0)) (et_test (ev_op (ev_var rfl) ev_c (rv_eq rfl))) (fun _ H2 e2 => ?_) fun _ H2 e2 => ?_
  · exact s_retN en_dnew fun p H3 hp e3 h3 => q p [] H3 (m1.fresh (fresh_back e2 hp)) (m1.then (e2.trans e3)) h3 .nil
  · have m2 := m1.then e2
    have ht2 : H2 t = some (.dK (tD F)) := e2 _ _ ht1
    have hF0 := ok.len
    refine q_when (b := decide (V.int r = V.int 1) && !(tD F).isEmpty) (et_and (et_test (ev_op (ev_var rfl) ev_c (rv_eq rfl))) fun _ => et_test (ev_neNilD (ev_var rfl) (rd_of ht2))) (fun _ H3 e3 => ?_) fun _ H3 e3 => ?_
    · have ht3 : H3 t = some (.dK (tD F)) := e3 _ _ ht2
      have hs : ∀ n, n ∈ sortS (ks F) → ∃ x, lk F n = some x ∧ x.length ≤ 200 := fun n hn => by
        obtain ⟨x, hx⟩ := mem_ks (mem_sortS.mp hn)
        exact ⟨x, hx, ok.txt _ (lk_mem hx)⟩
      refine q_asgN (o := .lst (((sortS (ks F)).map fun n => (lk F n).getD "").map V.str)) (en_is (en_lcT (α := Str) (f := fun n => V.str ((lk F n).getD "")) (lc_N _ V.str _ _ (en_srtDS (ev_var rfl) (rd_of ht3) (en_keys F)) (by rw [(sortS_perm _).length_eq]; unfold ks; rw [List.length_map]; omega) (fun _ => rfl) m_val (fun _ _ _ _ => et_yes) fun n H4 hn _ e4 => ev_x (ev_dget (k := .inr n) (ev_var rfl) (ev_var rfl) (ex_rd e4 (rd_of ht3)) (by obtain ⟨x, hx, _⟩ := hs n hn; rw [en_look inr_inj', hx]; rfl)))) (by rw [List.map_map]; rfl)) fun p H4 hp e4 h4 => ?_
      generalize hxs : (sortS (ks F)).map (fun n => (lk F n).getD "") = xs at h4
      have hxl : ∀ x ∈ xs, x.length ≤ 200 := fun x hx => by
        rw [← hxs] at hx
        obtain ⟨n, hn, rfl⟩ := List.mem_map.mp hx
        obtain ⟨y, hy, hl⟩ := hs n hn
        rw [hy]; exact hl
      have e0 : mergeK [] ((PATHS.reverse.map Sum.inr : List Key).zip (xs.map V.str)) = tD (PATHS.reverse.zip xs) := by
        have z := en_merge0 (ka := Sum.inr) (vb := V.str) inr_inj' (PATHS.reverse.zip xs)
        rw [mrg_nd (LTb.zip (by decide) (fun p hp => List.mem_reverse.mp hp) hxl).nd] at z
        refine Eq.trans ?_ z
        unfold en
        rw [List.zip_map]
        rfl
      refine s_retN (en_is (en_zip (kl := PATHS.reverse.map Sum.inr) (en_is (en_revN (en_cl mono_paths ea_nil ⟨rfl, rfl⟩)) (by rfl)) (ev_var rfl) (sq_of h4)) (congrArg HO.dK e0)) fun p2 H5 hp2 e5 h5 => q p2 _ H5 (((m2.then e3).then e4).fresh hp2) (((m2.then e3).then e4).then e5) h5 (LTb.zip (by decide) (fun p hp => List.mem_reverse.mp hp) hxl)
    · refine q_asgN (en_dcopy (ev_var rfl) (rd_of (e3 _ _ ht2))) fun g H4 hg e4 h4 => ?_
      have m4 := (m2.then e3).then e4
      refine roll_use (dc := dc) (n := 5) (ev_var rfl) ev_c m4.di (by decide) (by decide) fun r2 H5 _ _ m5 => ?_
      have ht5 : H5 t = some (.dK (tD F)) := m5.at (e4 _ _ (e3 _ _ ht2)) htd
      have hg0 : H g = none := (m2.then e3).fresh hg
      have hgd : g ≠ dc := dice_ne_new hd hg0
      refine ⟨1, r2, rfl, rfl, 1 + r2, rfl, by omega, by omega, for_range (fun i σ' H' => ∃ (g : Addr) (G : Tb) (u5 u6 u7 : Option V), σ' = [some (.ref dc), some (.ref t), some (.int r), none, some (.ref g), u5, u6, u7] ∧ Mv dc H H' ∧ H g = none ∧ H' g = some (.dK (tD G)) ∧ LTb G) ⟨g, F, none, none, none, rfl, m4.trans m5, hg0, m5.at h4 hgd, ok⟩ ?_ ?_⟩
      · rintro i σ' H' hi ⟨g, G, u5, u6, u7, rfl, m', hg, hG, okG⟩
        have hgd : g ≠ dc := dice_ne_new hd hg
        have ht' : H' t = some (.dK (tD F)) := m'.at ht htd
        refine pick_N (dc := dc) (n := 12) (en_cl mono_paths ea_nil ⟨rfl, rfl⟩) (ev_var rfl) ev_c m'.di (by decide) (by decide) (by decide) fun v H6 hv m6 => ?_
        obtain ⟨p, rfl, hp⟩ : ∃ p, v = V.str p ∧ p ∈ PATHS := by
          have z : v ∈ PATHS.map V.str := hv
          obtain ⟨p, hp, rfl⟩ := List.mem_map.mp z
          exact ⟨p, rfl, hp⟩
        have hg6 := m6.at hG hgd
        have ht6 := m6.at ht' htd
        have hG0 := okG.len
        refine whenM (dc := dc) (etm_and (R := True) (etm_of m6.di (et_B (ev_din (k := .inr p) (ev_var rfl) (ev_var rfl) (rd_of hg6))) fun _ => trivial) fun H7 m7 => etm_roll (ev_var rfl) ev_c m7.di (by decide) (by decide)) (fun _ H7 m7 => ?_) fun H7 m7 => ?_
        · have hg7 := m7.at hg6 hgd
          have M7 := (m'.trans m6).trans m7
          refine s_asgN (o := .dK (tD (G.filter fun r => decide (r.1 ≠ p)))) (en_is (en_dictP (kv := fun r => ((Sum.inr r.1 : Key), V.str r.2)) (lc_D (ka := Sum.inr) (vb := V.str) (fun d => d = g) G (fun r => decide (r.1 ≠ p)) _ ?_ (by omega) (fun _ => rfl) m_tup ?_)) (congrArg HO.dK ?_)) fun g2 H8 hg2 e8 h8 => ⟨g2, _, _, _, _, rfl, M7.then e8, M7.fresh hg2, h8, okG.filter _⟩
          · exact EvX.imp (ev_x (ev_var rfl)) fun v H' e' hv => ⟨g, hv, rfl, ex_rd e' (rd_of hg7)⟩
          · rintro d' H8 B od rfl e8 l r hr
            have hB : Rd B d' (.dK (tD G)) := l.dic (ex_rd e8 (rd_of hg7))
            refine ⟨et_is (et_test (ev_op (ev_var rfl) (ev_var rfl) (rv_ne rfl))) ?_, fun _ => ex_tup (ea_cons (ev_var rfl) (ea_cons (ev_dget (k := .inr r.1) (ev_var rfl) (ev_var rfl) hB (by rw [en_look inr_inj', lk_of okG.nd hr]; rfl)) ea_nil)) (by simp)⟩
            by_cases z : r.1 = p <;> simp [z, kV]
          · have z := en_merge0 (ka := Sum.inr) (vb := V.str) inr_inj' (G.filter fun r => decide (r.1 ≠ p))
            rw [mrg_nd (okG.filter _).nd] at z
            exact z
        · have hg7 := m7.at hg6 hgd
          have ht7 := m7.at ht6 htd
          have M7 := (m'.trans m6).trans m7
          refine whenM (dc := dc) (R := F ≠ []) (etm_and (R := True) (etm_roll (ev_var rfl) ev_c m7.di (by decide) (by decide)) fun H8 m8 => etm_of m8.di (et_test (ev_neNilD (ev_var rfl) (rd_of (m8.at ht7 htd)))) fun h z => by rw [z] at h; cases h) (fun hne H8 m8 => ?_) fun H8 m8 => ?_
          · have hg8 := m8.at hg7 hgd
            have ht8 := m8.at ht7 htd
            have hFl : 0 < F.length := List.length_pos_iff.mpr hne
            have hsl : ((sortS (ks F)).map V.str).length = F.length := by rw [List.length_map, (sortS_perm _).length_eq]; unfold ks; rw [List.length_map]
            refine ⟨_, rfl, ?_⟩
            refine pick_N (dc := dc) (n := (F.length : Int)) (en_srtDS (ev_var rfl) (rd_of ht8) (en_keys F)) (ev_var rfl) (ev_is (ev_cb (ea_cons (ev_var rfl) ea_nil) (rc_len (.dic (rd_of ht8)))) (by rw [en_len])) m8.di (by omega) (by omega) (by rw [hsl]; exact Int.le_refl _) fun v H9 hv m9 => ?_
            obtain ⟨n, hn, rfl⟩ := List.mem_map.mp hv
            obtain ⟨x, hx⟩ := mem_ks (mem_sortS.mp hn)
            have hxl := ok.txt _ (lk_mem hx)
            have M9 := (M7.trans m8).trans m9
            have hg9 := m9.at hg8 hgd
            refine ⟨t, .str x, rfl, ?_, _, rfl, _, rfl, g, _, rfl, DPut.k (k := .inr p) hg9 (by rw [en_len]; exact sz_lt (by omega)), g, pu G p x, _, _, _, rfl, M9.upd hg hgd, hg, by rw [upd_same]; exact congrArg (fun y => some (HO.dK y)) (en_put inr_inj' G p x), okG.put hp hxl⟩
            have z : valV (tD F) (.inr n) = some (.str x) := by rw [en_look inr_inj', hx]; rfl
            rw [← z]
            exact dget_of (k := .inr n) (rd_of (m9.at ht8 htd))
          · refine cl_use (vs := [.ref dc]) (ea_cons (ev_var rfl) ea_nil) fun H9 e9 => ⟨dc, rfl, m8.di.ex e9, fun x H10 hx m10 => ?_⟩
            have M10 := ((M7.trans m8).then e9).trans m10
            have hg10 := m10.at (e9 _ _ (m8.at hg7 hgd)) hgd
            exact ⟨_, rfl, _, rfl, g, _, rfl, DPut.k (k := .inr p) hg10 (by rw [en_len]; exact sz_lt (by omega)), g, pu G p x, _, _, _, rfl, M10.upd hg hgd, hg, by rw [upd_same]; exact congrArg (fun y => some (HO.dK y)) (en_put inr_inj' G p x), okG.put hp hx⟩
      · rintro σ' H' ⟨g, G, u5, u6, u7, rfl, m', hg, hG, okG⟩
        exact s_ret (ev_var rfl) fun H6 e6 => q g G H6 hg (m'.then e6) (e6 _ _ hG) okG
end
end Kw


set_option Elab.async false
set_option linter.all false
set_option maxRecDepth 100000
set_option maxHeartbeats 4000000
/-! Law7: the law's inner folders. -/
namespace Kw
open PySem PySem.Spec PyProof.Rows L2 Evl
local macro_rules
  | `(tactic| walk_at "hp") => `(tactic| first
      | exact prp (by assumption)
      | exact rfl
      | exact upd_same
      | ((with_reducible apply sq_of); first | assumption | exact upd_same)
      | ((with_reducible apply st_of); first | assumption | exact upd_same)
      | ((with_reducible apply rd_of); first | assumption | exact upd_same)
      | ((with_reducible apply ex_l); assumption; walk_at "hp")
      | ((with_reducible apply ex_t); assumption; walk_at "hp")
      | ((with_reducible apply ex_rd); assumption; walk_at "hp")
      | ((with_reducible apply ex_at); assumption; walk_at "hp")
      | ((with_reducible apply Or.inl); walk_at "hp")
      | ((with_reducible apply Or.inr); walk_at "hp")
      | ((with_reducible apply LenD.lst); walk_at "hp")
      | ((with_reducible apply LenD.tup); walk_at "hp")
      | ((with_reducible apply LenD.dic); walk_at "hp")
      | ((with_reducible apply LenD.str); walk_at "hp")
      | ((with_reducible apply mulR); decide)
      | ((with_reducible apply mulL); decide)
      | decide
      | omega)
local macro_rules
  | `(tactic| walk_at "ev") => `(tactic| ((fail_if_success (with_reducible apply ev_bad)); (fail_if_success (with_reducible apply et_bad)); (fail_if_success (with_reducible apply ea_bad)); (fail_if_success (with_reducible apply en_bad)); first
      | ((with_reducible apply ev_var); exact rfl)
      | (with_reducible exact ev_c)
      | (with_reducible exact ea_nil)
      | (with_reducible exact eo_none)
      | ((with_reducible apply eo_some) <;> try walk_at "ev")
      | ((with_reducible apply ea_cons) <;> try walk_at "ev")
      | ((with_reducible apply ev_inTup) <;> try walk_at "ev")
      | ((with_reducible apply ev_niTup) <;> try walk_at "ev")
      | ((with_reducible apply ev_ixP) <;> try walk_at "ev")
      | (with_reducible exact rv_isN)
      | (with_reducible exact rv_notN)
      | ((with_reducible apply ev_op) <;> try walk_at "ev")
      | (with_reducible exact rv_I0)
      | ((with_reducible apply rv_I) <;> try walk_at "hp")
      | ((with_reducible apply rv_eq); exact rfl)
      | ((with_reducible apply rv_ne); exact rfl)
      | ((with_reducible apply rv_addS) <;> try walk_at "hp")
      | ((with_reducible apply rv_ixL); walk_at "hp"; walk_at "hp")
      | ((with_reducible apply rv_ixT); walk_at "hp"; walk_at "hp")
      | ((with_reducible apply ev_cb) <;> try walk_at "ev")
      | ((with_reducible apply rc_len); walk_at "hp")
      | (with_reducible exact rc_ord)
      | ((with_reducible apply rc_str) <;> try walk_at "hp")
      | (with_reducible exact rc_int)
      | (with_reducible exact rc_intB)
      | (with_reducible exact rc_abs)
      | (with_reducible exact rc_max2)
      | (with_reducible exact rc_min2)
      | ((with_reducible apply ev_joinN) <;> try walk_at "ev")
      | ((with_reducible apply ev_m1) <;> try walk_at "ev")
      | ((with_reducible apply rm_strip) <;> try walk_at "hp")
      | (with_reducible exact rm_starts)
      | ((with_reducible apply rm_join) <;> try walk_at "hp")
      | ((with_reducible apply ev_slS) <;> try walk_at "ev")
      | ((with_reducible apply ev_dget) <;> try walk_at "ev")
      | ((with_reducible apply ev_din) <;> try walk_at "ev")
      | ((with_reducible apply ev_dnotin) <;> try walk_at "ev")
      | ((with_reducible apply ev_fld) <;> try walk_at "ev")
      | ((with_reducible apply et_test) <;> try walk_at "ev")
      | ((with_reducible apply et_B) <;> try walk_at "ev")
      | ((with_reducible apply et_and) <;> try walk_at "ev")
      | ((with_reducible apply et_or) <;> try walk_at "ev")
      | ((with_reducible apply et_not) <;> try walk_at "ev")
      | (with_reducible exact en_dnew)
      | (with_reducible exact et_yes)
      | ((with_reducible apply ex_tup) <;> try walk_at "ev")
      | ((with_reducible apply en_slL) <;> try walk_at "ev")
      | ((with_reducible apply en_split) <;> try walk_at "ev")
      | ((with_reducible apply en_part) <;> try walk_at "ev")
      | walk_at "hp"
      | ((with_reducible refine fun hb => ?_); try walk_at "ev")))
local macro_rules
  | `(tactic| walk_at "lcf") => `(tactic| first
      | (intro _ _ _ _ _; exact rfl)
      | (intro _ _ _ _ _; dsimp only [Cx.blk]; done)
      | (intro _ _ _ _ _; dsimp only [Cx.blk]; exact rfl))
def splH (p : Str) : Str := ((Txt.split p "/")[0]?).getD ""
def hasS (p : Str) : Bool := decide (47 ∈ TL.tl p)
def dirs (F : Tb) : List Str := sortS (ks (mrg [] ((F.filter fun r => hasS r.1).map fun r => (splH r.1, (1 : Int)))))
def underU (n p : Str) : Bool := decide (cutS p none (some ((n.length : Int) + 1)) = n ++ "/")
def partU (F : Tb) (n : Str) : Tb := mrg [] ((F.filter fun r => underU n r.1).map fun r => (restP n r.1, r.2))
/-- the law's inner folders -/
def inn : Nat → Tb → List Tb
  | 0, _ => []
  | d + 1, F => rowsBy F :: (dirs F).flatMap fun n => inn d (partU F n)
def InnOk : Nat → Tb → Prop
  | 0, _ => False
  | d + 1, F => (ks F).Nodup ∧ F.length ≤ 100 ∧ (∀ r ∈ F, r.1.length ≤ 1000) ∧ (inn (d + 1) F).length ≤ 2000 ∧ ∀ n ∈ dirs F, n.length ≤ 1000 ∧ InnOk d (partU F n)
section
variable {σ : L2.St} {H : Hp} {te ti : TE} {K : PySem.W.Frag}
theorem ev_ixLN {xs : List V} {i : Int} {v : V} (h : EvN te σ H (.lst xs)) (hi : Ev ti σ H (.int i)) (ha : atI xs i = some v) : Ev (tOp (rIxL K) te ti) σ H v := fun H1 e Q q =>
  h H1 e _ fun p H2 _ e2 hp => hi H2 (e.trans e2) _ fun H3 e3 => ⟨p, xs, i, v, rfl, rfl, ex_l e3 (sq_of hp), ha, q H3 (e2.trans e3)⟩
theorem en_srtDSN {kvs : List (Key × V)} {kl : List Str} (h : EvN te σ H (.dK kvs)) (hk : kvs.map (·.1) = kl.map Sum.inr) : EvN (tCB (rSrtD K) (tCons te tNil)) σ H (.lst ((sortS kl).map V.str)) := fun H1 e Q q =>
  h H1 e _ fun p H2 hn e2 hp => en_srtDS (te := fun _ H Q => Q (.ref p) H) (σ := σ) (fun G _ Q q => q G (Ex.refl G)) (rd_of hp) hk H2 (Ex.refl H2) Q fun l H3 hl e3 h3 => q l H3 (fresh_back e2 hl) (e2.trans e3) h3
theorem ep_lst1 {S : Addr → Hp → Prop} (m : ∀ p H H', Ex H H' → S p H → S p H') (h : EvP te σ H S) : EvP (tLst (tCons te tNil)) σ H (fun p H' => ∃ a, H' p = some (.lst [.ref a]) ∧ S a H') := fun H1 e Q q =>
  h H1 e _ fun a H2 hn e2 hs => ⟨sz_of (n := 1) (by decide), fun p hp => q p _ (fresh_back e2 hp) (e2.trans (Ex.new hp)) ⟨a, upd_same, m _ _ _ (Ex.new hp) hs⟩⟩
theorem q_parPN {i j : Nat} {ta tb : TE} {tz : TS} {D : Ends} {S : Addr → Hp → Prop} {o : HO} (h1 : EvP ta σ H S) (h2 : EvN tb σ H o) (k : ∀ p q H1 H2, H p = none → Ex H H1 → S p H1 → H1 q = none → Ex H1 H2 → H2 q = some o → tz D ((σ.set i (some (.ref p))).set j (some (.ref q))) H2) :
    tSeq (tPar i j (tCons ta (tCons tb tNil))) tz D σ H := h1 H (Ex.refl H) _ fun p H1 hp e1 hs => h2 H1 e1 _ fun q H2 hq e2 hr => ⟨_, _, rfl, k p q H1 H2 hp e1 hs hq e2 hr⟩
end
theorem paired_app {β γ : Type} {F : β → γ → Prop} : ∀ {xs : List β} {ys : List γ} {us : List β} {vs : List γ}, Paired F xs ys → Paired F us vs → Paired F (xs ++ us) (ys ++ vs)
  | _, _, _, _, .nil, h => h
  | _, _, _, _, .cons a r, h => .cons a (paired_app r h)
theorem spl_some (S : List Nat) : ∀ (cs acc : List Nat) (k : Nat), TL.spl S k acc cs ≠ []
  | [], acc, k => by rw [TL.spl_nil]; simp
  | c :: r, acc, 0 => by
    show (if TL.pre S (c :: r) = true then acc :: TL.spl S (S.length - 1) [] r else TL.spl S 0 (acc ++ [c]) r) ≠ []
    split
    · simp
    · exact spl_some S r _ 0
  | c :: r, acc, k + 1 => spl_some S r acc k
theorem split_at0 (p : Str) : ∃ a r, Txt.split p "/" = a :: r := by
  have e := TL.split_spl p "/" (by decide) (TL.kind_ok (by decide +kernel))
  cases z : Txt.split p "/" with
  | nil => rw [z] at e; exact absurd e.symm (spl_some _ _ _ _)
  | cons a r => exact ⟨a, r, rfl⟩
theorem splH_at (p : Str) : atI ((Txt.split p "/").map V.str) 0 = some (.str (splH p)) := by
  obtain ⟨a, r, e⟩ := split_at0 p
  unfold splH
  rw [e]
  exact atI_nat (j := 0) rfl
section
variable {P : Program} {w : World} {K : PySem.W.Frag} {mg : Str → Option Value} {base : Heap} {k : Nat}
def spLawInner (K : PySem.W.Frag) (dep : Nat) : Sp := fun vs H Q _ => ∃ (t : Addr) (F : Tb), vs = [.ref t] ∧ Rd H t (.dK (tD F)) ∧ InnOk dep F ∧
  ∀ L (ts : List Addr) H', H L = none → Ex H H' → H' L = some (.lst (ts.map V.ref)) → Paired (fun a G => Itm K H' a G) ts (inn dep F) → Q (.ref L) H'
theorem law_inner_ok (T : Md K mg base) : ∀ (dep k : Nat), 1 + dep ≤ k → CallOk P w K mg base k "_law_inner" ["table"] (spLawInner K dep) := by
  intro dep
  induction dep with
  | zero =>
    intro k hk
    obtain ⟨k, rfl⟩ : ∃ j, k = j + 1 := ⟨k - 1, by omega⟩
    refine T.d_law_inner.ok (N := ["table", "found", "names", "name", "inner", "path"]) sc_law_inner (by rintro vs H Q E ⟨t, F, rfl, -⟩; rfl) ?_
    rintro f cdv A outer s H vs Q E hr ⟨t, F, rfl, _, h, _⟩
    exact h.elim
  | succ dep ih =>
    intro k hk
    obtain ⟨k, rfl⟩ : ∃ j, k = j + 1 := ⟨k - 1, by omega⟩
    refine T.d_law_inner.ok (N := ["table", "found", "names", "name", "inner", "path"]) sc_law_inner (by rintro vs H Q E ⟨t, F, rfl, -⟩; rfl) ?_
    rintro f cdv A outer s H vs Q E hr ⟨t, F, rfl, ht, ⟨nd, hl, hpl, hil, hdir⟩, q⟩
    refine ⟨_, (pss_cons (ps_par (i := 1) (j := 2) rfl sc_law_inner.nd rfl rfl (by decide) rfl rfl (pa_cons (pe_lst (pa_cons (b_tupleL T.b (pa_cons (b_sorteditems T.b (hu64_of hr) (pv 0)) pa_nil)) pa_nil)) (pa_cons (b_sortedD T.b (hu64_of hr) (pa_cons (b_dictL T.b (pa_cons (pe_un (pe_lcF (own := [("path", 5)]) rfl sc_law_inner.nd (pi_keys (pe_lkA (pv 0))) (blkOk_by (own := [("path", 5)]) (N := ["table", "found", "names", "name", "inner", "path"]) (sc := defScope st_law_inner) (by decide +kernel)) (fun _ _ _ _ _ => (by exact (pg_name (i := 5) sc_law_inner.nd rfl (Or.inl rfl)))) (fun _ _ _ _ _ => (by exact (pts_one (pt_cmpR op_in_sign pe_str (pv 5) (by rfl))))) (fun _ _ _ _ _ => (by exact (pe_tup (pa_cons (pe_ix ix_list (s_split (pv 5) pe_str) pe_int (fun _ _ => rfl)) (pa_cons pe_int pa_nil))))) (by walk_at "lcf") (by walk_at "lcf") (by walk_at "lcf"))) pa_nil)) pa_nil)) pa_nil)) (by rfl))
    (pss_cons (ps_for PassesOwn.never rfl (pi_list (pv 2)) (pg_name (i := 3) sc_law_inner.nd rfl (Or.inr rfl))
      (pss_cons (ps_set (i := 4) sc_law_inner.nd rfl (Or.inl rfl) (b_dictL T.b (pa_cons (pe_un (pe_lcF (own := [("path", 5)]) rfl sc_law_inner.nd (pi_keys (pe_lkA (pv 0))) (blkOk_by (own := [("path", 5)]) (N := ["table", "found", "names", "name", "inner", "path"]) (sc := defScope st_law_inner) (by decide +kernel)) (fun _ _ _ _ _ => (by exact (pg_name (i := 5) sc_law_inner.nd rfl (Or.inl rfl)))) (fun _ _ _ _ _ => (by exact (pts_one (pt_cmpR op_eq (pe_slice sl_str (pv 5) po_none (po_some (pe_op op_add (b_len T.b (pa_cons (pv 3) pa_nil)) pe_int))) (pe_op op_add_str (pv 3) pe_str) (nomark _))))) (fun _ _ _ _ _ => (by exact (pe_tup (pa_cons (pe_slice sl_str (pv 5) (po_some (pe_op op_add (b_len T.b (pa_cons (pv 3) pa_nil)) pe_int)) po_none) (pa_cons (pe_dget (hu_of hr) (pv 0) (pv 5) (fun _ _ => rfl)) pa_nil))))) (by walk_at "lcf") (by walk_at "lcf") (by walk_at "lcf"))) pa_nil)))
      (pss_one (ps_set (i := 1) sc_law_inner.nd rfl (Or.inl rfl) (pe_op op_cat (pv 1) (pe_c (ih _ (by omega)) hr (by rfl) (pa_cons (pv 4) pa_nil)))))))
    (pss_one (ps_ret (pv 1))))), ?_⟩
    refine q_parPN (S := fun p H' => ∃ a, H' p = some (.lst [.ref a]) ∧ Itm K H' a (rowsBy F)) (o := .lst ((dirs F).map V.str)) ?_ ?_ fun L N H1 H2 hL e1 hLs hN e2 hN2 => ?_
    · refine ep_lst1 (fun _ _ _ e h => h.ex e) ?_
      refine EvP.imp (ep_tup (S := fun xs H' => ∃ ts : List Addr, xs = ts.map V.ref ∧ Paired (fun q (r : Str × Str) => SqT K H' q [.str r.1, .str r.2]) ts (rowsBy F)) (fun xs H H' e ⟨ts, a, b⟩ => ⟨ts, a, gv_pair (fun _ _ h => ex_t e h) b⟩) (EvP.imp (en_sorteditems (db := PyData.str) (fun _ _ => by simp [PySem.W.alike]) (fun b _ => .str b) (fun _ => by simp [PyData.depth]) (fun a b z => by cases z; rfl) nd ?hev ht) fun p H' _ ⟨ts, a, b⟩ => ⟨_, a, ts, rfl, gv_pair (fun _ _ h => st_of h) b⟩)) fun p H' _ ⟨xs, a, ts, b, c⟩ => ⟨ts, by rw [← b]; exact st_of a, c⟩
      exact ev_var rfl
    · refine en_srtDSN (en_is (en_dictP (kv := fun r => ((Sum.inr (splH r.1) : Key), V.int 1)) (lc_D (ka := Sum.inr) (vb := V.str) (fun d => d = t) F (fun r => hasS r.1) _ ?_ (by omega) (fun _ => rfl) m_tup ?_)) (congrArg HO.dK (?_ : _ = en Sum.inr V.int (mrg [] ((F.filter fun r => hasS r.1).map fun r => (splH r.1, (1 : Int))))))) (en_keys _)
      · exact EvX.imp (ev_x (ev_var rfl)) fun v H' e' hv => ⟨t, hv, rfl, ex_rd e' ht⟩
      · rintro d' H3 B od rfl e3 l r hr
        have hz : r.1.length + 2 ≤ sizeLine := sz_of (by have := hpl r hr; omega)
        exact ⟨et_test (ev_op ev_c (ev_var rfl) (rv_val fun _ _ _ q => ⟨47, r.1, rfl, rfl, q⟩)), fun _ => ex_tup (ea_cons (ev_ixLN (en_split (ev_var rfl) ev_c (by decide) hz) ev_c (splH_at r.1)) (ea_cons ev_c ea_nil)) (by simp)⟩
      · have z := en_merge0 (ka := Sum.inr) (vb := V.int) inr_inj' ((F.filter fun r => hasS r.1).map fun r => (splH r.1, (1 : Int)))
        refine Eq.trans ?_ z
        unfold en
        rw [List.map_map]
        rfl
    · obtain ⟨a, hLl, hI⟩ := hLs
      have e02 := e1.trans e2
      refine ⟨.ref N, rfl, N, rfl, ⟨_, sq_of hN2⟩, for_list (fun i σ' H' => Ex H H' ∧ H' N = some (.lst ((dirs F).map V.str)) ∧ ∃ (Li : Addr) (ts : List Addr) (u3 u4 u5 : Option V), H Li = none ∧ H' Li = some (.lst (ts.map V.ref)) ∧ Paired (fun a G => Itm K H' a G) ts (rowsBy F :: ((dirs F).take i).flatMap fun n => inn dep (partU F n)) ∧ σ' = [some (.ref t), some (.ref Li), some (.ref N), u3, u4, u5])
        ⟨e02, hN2, L, [a], _, _, _, hL, e2 _ _ hLl, .cons (hI.ex e2) .nil, rfl⟩ (fun i σ' H' _ h => sq_of h.2.1) ?_ ?_⟩
      · rintro i x σ' H' hi ⟨e, hN', Li, ts, u3, u4, u5, hLi, hLi', hP, rfl⟩
        obtain ⟨n, hn, hni, rfl⟩ := map_at' hi
        obtain ⟨hnl, hin⟩ := hdir n hn
        have ht' := ex_rd e ht
        have hs1 : ("/" : Str).length = 1 := by decide
        refine q_asgN (o := .dK (tD (partU F n))) (en_is (en_dictP (kv := fun r => ((Sum.inr (restP n r.1) : Key), V.str r.2)) (lc_D (ka := Sum.inr) (vb := V.str) (fun d => d = t) F (fun r => underU n r.1) _ ?_ (by omega) (fun _ => rfl) m_tup ?_)) (congrArg HO.dK ?_)) fun g H4 hg e4 h4 => ?_
        · exact EvX.imp (ev_x (ev_var rfl)) fun v H' e' hv => ⟨t, hv, rfl, ex_rd e' ht'⟩
        · rintro d' H3 B od rfl e3 l r hr
          have hz : r.1.length ≤ sizeLine := sz_of (by have := hpl r hr; omega)
          have hzn : n.length ≤ sizeLine := sz_of (by omega)
          have hB : Rd B d' (.dK (tD F)) := l.dic (ex_rd e3 ht')
          have hz2 : n.length + ("/" : Str).length ≤ sizeLine := sz_of (by omega)
          have hv : lk F r.1 = some r.2 := lk_of nd hr
          refine ⟨et_is (b := decide (V.str (cutS r.1 none (some ((n.length : Int) + 1))) = V.str (n ++ "/"))) (by walk_at "ev") ?_, fun _ => ex_tup (ea_cons (ev_is (v := .str (cutS r.1 (some ((n.length : Int) + 1)) none)) (by walk_at "ev") rfl) (ea_cons (ev_dget (k := .inr r.1) (ev_var rfl) (ev_var rfl) hB (by rw [en_look inr_inj', hv]; rfl)) ea_nil)) (by simp)⟩
          unfold underU
          simp
        · have z := en_merge0 (ka := Sum.inr) (vb := V.str) inr_inj' ((F.filter fun r => underU n r.1).map fun r => (restP n r.1, r.2))
          unfold partU
          refine Eq.trans ?_ z
          unfold en
          rw [List.map_map]
          rfl
        · refine ⟨_, rfl, ?_⟩
          refine cl_use (vs := [.ref g]) (ea_cons (ev_var rfl) ea_nil) fun H5 e5 => ⟨g, _, rfl, rd_of (e5 _ _ h4), hin, fun M ms H6 hM e6 hM6 hMP => ?_⟩
          have e46 := (e4.trans e5).trans e6
          have hil' : (rowsBy F :: (dirs F).flatMap fun n => inn dep (partU F n)).length ≤ 2000 := hil
          have hi2 : (dirs F)[i]? = some n := hni
          obtain ⟨hlt, hie⟩ := List.getElem?_eq_some_iff.mp hi2
          have hfl : ((dirs F).take (i + 1)).flatMap (fun n => inn dep (partU F n)) = ((dirs F).take i).flatMap (fun n => inn dep (partU F n)) ++ inn dep (partU F n) := by
            rw [List.take_succ_eq_append_getElem hlt, hie, List.flatMap_append]; simp
          have hfs : (((dirs F).take (i + 1)).flatMap (fun n => inn dep (partU F n))).length ≤ ((dirs F).flatMap fun n => inn dep (partU F n)).length := by
            conv => rhs; rw [← List.take_append_drop (i + 1) (dirs F)]
            rw [List.flatMap_append, List.length_append]; omega
          have l1 : ts.length = _ := Paired.length hP
          have l2 : ms.length = _ := Paired.length hMP
          rw [hfl, List.length_append] at hfs
          simp only [List.length_cons] at hil' l1
          refine ⟨Li, M, _, _, rfl, rfl, e46 _ _ hLi', hM6, by rw [List.length_map, List.length_map]; exact sz_of (by omega), fun p hp => ?_⟩
          refine ⟨(e.trans e46).trans (Ex.new hp), (Ex.new hp) _ _ (e46 _ _ hN'), p, ts ++ ms, _, _, _, fresh_back (e.trans e46) hp, by rw [upd_same, List.map_append], ?_, rfl⟩
          rw [hfl, ← List.cons_append]
          exact paired_app (gv_pair (fun _ _ h => h.ex (e46.trans (Ex.new hp))) hP) (gv_pair (fun _ _ h => h.ex (Ex.new hp)) hMP)
      · rintro σ' H' ⟨e, hN', Li, ts, u3, u4, u5, hLi, hLi', hP, rfl⟩
        rw [List.length_map, List.take_length] at hP
        exact s_ret (ev_var rfl) fun H5 e5 => q Li ts H5 hLi (e.trans e5) (e5 _ _ hLi') (gv_pair (fun _ _ h => h.ex e5) hP)
end
end Kw


set_option Elab.async false
set_option linter.all false
set_option maxRecDepth 100000
set_option maxHeartbeats 4000000
/-! Law8: the law's look at a swept store. -/
namespace Kw
open PySem PySem.Spec PyProof.Rows L2 Evl
local macro_rules
  | `(tactic| walk_at "hp") => `(tactic| first
      | exact prp (by assumption)
      | exact rfl
      | exact upd_same
      | ((with_reducible apply sq_of); first | assumption | exact upd_same)
      | ((with_reducible apply st_of); first | assumption | exact upd_same)
      | ((with_reducible apply rd_of); first | assumption | exact upd_same)
      | ((with_reducible apply ex_l); assumption; walk_at "hp")
      | ((with_reducible apply ex_t); assumption; walk_at "hp")
      | ((with_reducible apply ex_rd); assumption; walk_at "hp")
      | ((with_reducible apply ex_at); assumption; walk_at "hp")
      | ((with_reducible apply Or.inl); walk_at "hp")
      | ((with_reducible apply Or.inr); walk_at "hp")
      | ((with_reducible apply LenD.lst); walk_at "hp")
      | ((with_reducible apply LenD.tup); walk_at "hp")
      | ((with_reducible apply LenD.dic); walk_at "hp")
      | ((with_reducible apply LenD.str); walk_at "hp")
      | ((with_reducible apply mulR); decide)
      | ((with_reducible apply mulL); decide)
      | decide
      | omega)
local macro_rules
  | `(tactic| walk_at "ev") => `(tactic| ((fail_if_success (with_reducible apply ev_bad)); (fail_if_success (with_reducible apply et_bad)); (fail_if_success (with_reducible apply ea_bad)); (fail_if_success (with_reducible apply en_bad)); first
      | ((with_reducible apply ev_var); exact rfl)
      | (with_reducible exact ev_c)
      | (with_reducible exact ea_nil)
      | (with_reducible exact eo_none)
      | ((with_reducible apply eo_some) <;> try walk_at "ev")
      | ((with_reducible apply ea_cons) <;> try walk_at "ev")
      | ((with_reducible apply ev_inTup) <;> try walk_at "ev")
      | ((with_reducible apply ev_niTup) <;> try walk_at "ev")
      | ((with_reducible apply ev_ixP) <;> try walk_at "ev")
      | (with_reducible exact rv_isN)
      | (with_reducible exact rv_notN)
      | ((with_reducible apply ev_op) <;> try walk_at "ev")
      | (with_reducible exact rv_I0)
      | ((with_reducible apply rv_I) <;> try walk_at "hp")
      | ((with_reducible apply rv_eq); exact rfl)
      | ((with_reducible apply rv_ne); exact rfl)
      | ((with_reducible apply rv_addS) <;> try walk_at "hp")
      | ((with_reducible apply rv_ixL); walk_at "hp"; walk_at "hp")
      | ((with_reducible apply rv_ixT); walk_at "hp"; walk_at "hp")
      | ((with_reducible apply ev_cb) <;> try walk_at "ev")
      | ((with_reducible apply rc_len); walk_at "hp")
      | (with_reducible exact rc_ord)
      | ((with_reducible apply rc_str) <;> try walk_at "hp")
      | (with_reducible exact rc_int)
      | (with_reducible exact rc_intB)
      | (with_reducible exact rc_abs)
      | (with_reducible exact rc_max2)
      | (with_reducible exact rc_min2)
      | ((with_reducible apply ev_joinN) <;> try walk_at "ev")
      | ((with_reducible apply ev_m1) <;> try walk_at "ev")
      | ((with_reducible apply rm_strip) <;> try walk_at "hp")
      | (with_reducible exact rm_starts)
      | ((with_reducible apply rm_join) <;> try walk_at "hp")
      | ((with_reducible apply ev_slS) <;> try walk_at "ev")
      | ((with_reducible apply ev_dget) <;> try walk_at "ev")
      | ((with_reducible apply ev_din) <;> try walk_at "ev")
      | ((with_reducible apply ev_dnotin) <;> try walk_at "ev")
      | ((with_reducible apply ev_fld) <;> try walk_at "ev")
      | ((with_reducible apply et_test) <;> try walk_at "ev")
      | ((with_reducible apply et_B) <;> try walk_at "ev")
      | ((with_reducible apply et_and) <;> try walk_at "ev")
      | ((with_reducible apply et_or) <;> try walk_at "ev")
      | ((with_reducible apply et_not) <;> try walk_at "ev")
      | (with_reducible exact en_dnew)
      | (with_reducible exact et_yes)
      | ((with_reducible apply ex_tup) <;> try walk_at "ev")
      | ((with_reducible apply en_slL) <;> try walk_at "ev")
      | ((with_reducible apply en_split) <;> try walk_at "ev")
      | ((with_reducible apply en_part) <;> try walk_at "ev")
      | walk_at "hp"
      | ((with_reducible refine fun hb => ?_); try walk_at "ev")))
local macro_rules
  | `(tactic| walk_at "lcf") => `(tactic| first
      | (intro _ _ _ _ _; exact rfl)
      | (intro _ _ _ _ _; dsimp only [Cx.blk]; done)
      | (intro _ _ _ _ _; dsimp only [Cx.blk]; exact rfl))
abbrev Kp := List (Int × (Addr × Tb))
abbrev tKp (kp : Kp) : List (Key × V) := en Sum.inl (fun z : Addr × Tb => V.ref z.1) kp
def KpAt (H : Hp) (kp : Kp) : Prop := ∀ r ∈ kp, Rd H r.2.1 (.dK (tD r.2.2))
theorem KpAt.ex {H H' : Hp} {kp : Kp} (e : Ex H H') (h : KpAt H kp) : KpAt H' kp := fun r hr => ex_rd e (h r hr)
def valsF (F : Tb) : List Str := F.map Prod.snd
def pcs (S : Tb) : List Str := (sortS (ks S)).map fun n => (lk S n).getD ""
def hdS (x : Str) : Option Nat := (TL.tl x)[0]?
/-- the store holds just what the kept tables are cut into, each once -/
structure Swept (S : Tb) (kp : Kp) : Prop where
  ne : ∀ y ∈ pcs S, ∃ c, hdS y = some c
  nd : (pcs S).Nodup
  par : ∀ y, (y ∈ pcs S ∧ hdS y = some 112) ↔ ∃ r ∈ kp, ∃ x ∈ valsF r.2.2, ∃ c ∈ cutsS x, y = ("p" : Str) ++ c
  txt : ∀ t : List Str, t.Nodup → (∀ x, x ∈ t ↔ ∃ r ∈ kp, x ∈ valsF r.2.2) → ((pcs S).filter fun y => decide (hdS y = some 108)).length = t.length
  fol : ∀ t : List Tb, t.Nodup → (∀ G, G ∈ t ↔ ∃ r ∈ kp, G ∈ inn 4 r.2.2) → ((pcs S).filter fun y => decide (hdS y = some 116)).length = t.length
theorem exs_un {ds : List Addr} {H B H' Hf : Hp} {d : Addr} {od : Obj} {kvs : List (Key × V)} (l : LkB H B d od kvs) (e : Exs ds B H') (h1 : ∀ a, a ≠ d → Hf a = H' a) (h2 : Hf d = H d) : Exs ds H Hf := fun a o n h => by
  by_cases q : a = d
  · rw [q, h2, ← q]; exact h
  · rw [h1 a q]; exact e a o n (by rw [l.off a q]; exact h)
theorem stF_mem {fs : List (Rw × Addr)} {F : Rw} {a : Addr} {G : Rw} : G ∈ (stF fs F a).map (·.1) ↔ G ∈ fs.map (·.1) ∨ G = F := by
  unfold stF
  split
  · rename_i h
    exact ⟨.inl, fun z => z.elim id fun e => e ▸ h⟩
  · rw [List.map_append, List.mem_append]; simp
theorem stF_nd {fs : List (Rw × Addr)} {F : Rw} {a : Addr} (h : (fs.map (·.1)).Nodup) : ((stF fs F a).map (·.1)).Nodup := by
  unfold stF
  split
  · exact h
  · rename_i c
    rw [List.map_append, List.nodup_append]
    exact ⟨h, by simp, fun x hx y hy => by
      obtain rfl : y = F := by simpa using hy
      exact fun e => c (e ▸ hx)⟩
theorem Itm.exs {K : PySem.W.Frag} {ds : List Addr} {H H' : Hp} {a : Addr} {F : Rw} (e : Exs ds H H') (n : ∀ d ∈ ds, ∀ ys, ¬ Rd H d (.tup ys)) (h : Itm K H a F) : Itm K H' a F :=
  let ⟨us, x, y⟩ := h; ⟨us, exs_t e n x, gv_pair (fun _ _ h => exs_t e n h) y⟩
theorem Itm.lk {K : PySem.W.Frag} {H B : Hp} {d : Addr} {od : Obj} {kvs : List (Key × V)} {a : Addr} {F : Rw} (l : LkB H B d od kvs) (h : Itm K H a F) : Itm K B a F :=
  let ⟨us, x, y⟩ := h; ⟨us, l.tup x, gv_pair (fun _ _ h => l.tup h) y⟩
theorem notup_e {H : Hp} {d : Addr} {φ : Heap → Prop} (h : H d = some (.ext φ)) : ∀ ys, ¬ Rd H d (.tup ys) := fun ys g => by
  rcases g with g | ⟨o2, g⟩ <;> rw [h] at g <;> cases g
theorem ex_take {α : Type} {l : List α} {i : Nat} {r : α} (h : l[i]? = some r) (p : α → Prop) : (∃ x ∈ l.take (i + 1), p x) ↔ (∃ x ∈ l.take i, p x) ∨ p r := by
  obtain ⟨hlt, he⟩ := List.getElem?_eq_some_iff.mp h
  rw [List.take_succ_eq_append_getElem hlt, he]
  constructor
  · rintro ⟨x, hx, hp⟩
    rcases List.mem_append.mp hx with hx | hx
    · exact .inl ⟨x, hx, hp⟩
    · exact .inr (List.mem_singleton.mp hx ▸ hp)
  · rintro (⟨x, hx, hp⟩ | hp)
    · exact ⟨x, List.mem_append_left _ hx, hp⟩
    · exact ⟨r, by simp, hp⟩
theorem mem_take' {α : Type} {l : List α} {i : Nat} {r x : α} (h : l[i]? = some r) : x ∈ l.take (i + 1) ↔ x ∈ l.take i ∨ x = r := by
  have z := ex_take h (fun y => x = y)
  simpa using z
theorem flat_len {α β : Type} {f : α → List β} {b : Nat} : ∀ {l : List α}, (∀ x ∈ l, (f x).length ≤ b) → (l.flatMap f).length ≤ l.length * b
  | [], _ => by simp
  | x :: r, h => by
    have h1 := h x (List.mem_cons_self ..)
    have h2 := flat_len (l := r) fun y hy => h y (List.mem_cons_of_mem _ hy)
    rw [List.flatMap_cons, List.length_append, List.length_cons, Nat.succ_mul]
    omega
section
variable {σ : L2.St} {H : Hp} {tz : TS} {D : Ends} {w : World}
theorem tDNewN_par {i j : Nat} (k : ∀ p q H1, H p = none → H q = none → p ≠ q → Ex H H1 → H1 p = some (.dK []) → H1 q = some (.ext (ndF w q [])) → tz D ((σ.set i (some (.ref p))).set j (some (.ref q))) H1) :
    tSeq (tPar i j (tCons tDNewK (tCons (tDNewN w) tNil))) tz D σ H := fun p hp q hq => ⟨_, _, rfl, by
  have hpq : p ≠ q := fun z => by rw [← z, upd_same] at hq; cases hq
  have hq0 : H q = none := by rw [upd_ne (Ne.symm hpq)] at hq; exact hq
  exact k p q _ hp hq0 hpq ((Ex.new hp).trans (Ex.new hq)) (by rw [upd_ne hpq]; exact upd_same) upd_same⟩
end
section
variable {K : PySem.W.Frag} {σ : L2.St} {H : Hp} {te ta tb : TE} {w : World}
theorem ev_lenLN {xs : List V} (h : EvN te σ H (.lst xs)) : Ev (tCB (rLn K) (tCons te tNil)) σ H (.int (xs.length : Int)) := fun H1 e Q q => h H1 e _ fun p H2 _ e2 hp => ⟨_, _, rfl, .lst (sq_of hp), q H2 e2⟩
theorem ev_lenDN {kvs : List (Key × V)} (h : EvN te σ H (.dK kvs)) : Ev (tCB (rLn K) (tCons te tNil)) σ H (.int (kvs.length : Int)) := fun H1 e Q q => h H1 e _ fun p H2 _ e2 hp => ⟨_, _, rfl, .dic (rd_of hp), q H2 e2⟩
theorem ev_lenND {p : Addr} {fs : List (Rw × Addr)} (h : Ev te σ H (.ref p)) (hp : ND w K H p fs) : Ev (tCB (rLenN w K) (tCons te tNil)) σ H (.int (fs.length : Int)) := fun H1 e Q q => h H1 e _ fun H2 e2 => ⟨p, fs, rfl, hp.ex (e.trans e2), q H2 e2⟩
theorem en_srtSN {kl : List Str} (h : EvN te σ H (.lst (kl.map V.str))) : EvN (tCB (rSrt K) (tCons te tNil)) σ H (.lst ((sortS kl).map V.str)) := by
  rw [← srt_strs]
  intro H1 e Q q
  exact h H1 e _ fun p H2 _ e2 hp => ⟨p, kl.map sVD, rfl, .inl (by rw [strs_map]; exact sq_of hp), sortIn_strs kl, fun l hl => q l _ (fresh_back e2 hl) (e2.trans (Ex.new hl)) upd_same⟩
theorem ev_neSS {xs ys : List Str} (h1 : EvN ta σ H (.lst (xs.map V.str))) (h2 : EvN tb σ H (.lst (ys.map V.str))) : Ev (tOp (rNeP K) ta tb) σ H (.bl (!decide (xs = ys))) := fun H1 e Q q =>
  h1 H1 e _ fun p H2 _ e2 hp => h2 H2 (e.trans e2) _ fun r H3 _ e3 hr => ⟨_, _, dpl_flat (ex_l e3 (sq_of hp)) (flat_strs xs), dpl_flat (sq_of hr) (flat_strs ys), plain_lst _, plain_lst _, depth_lst _, by
    rw [PyData.eqv, eqvAll_strs]
    exact q H3 (e2.trans e3)⟩
theorem ev_hd {y : Str} {c : Nat} {i : Nat} (hy : hdS y = some c) (hz : y.length ≤ 100000) (hv : σ[i]? = some (some (.str y))) : Ev (tOp rIxS (tVar i) (tC (.int 0))) σ H (.str ⟨#[c]⟩) := ev_op (ev_var hv) ev_c (rv_ixS (i := 0) hz (atI_nat (j := 0) hy))
theorem hd_is {y : Str} {c e : Nat} (hy : hdS y = some c) (z : Str) (hz : z = ⟨#[e]⟩) : decide (V.str ⟨#[c]⟩ = V.str z) = decide (hdS y = some e) := by
  rw [hy, hz]
  by_cases q : c = e
  · subst q; simp
  · have h1 : V.str ⟨#[c]⟩ ≠ V.str ⟨#[e]⟩ := fun h => q (by injection h with h; injection h with h; simpa using h)
    rw [decide_eq_false h1]
    simp [q]
end
section
variable {P : Program} {w : World} {K : PySem.W.Frag} {mg : Str → Option Value} {base : Heap} {k : Nat}
def spLawSwept (CD CS : Addr) : Sp := fun vs H Q _ => ∃ (dy st d tm kd : Addr) (S : Tb) (ts : Tm) (kp : Kp), vs = [.ref dy, .ref kd] ∧ DayAt CD CS dy st d tm H S ts ∧ WF S ∧ Rd H kd (.dK (tKp kp)) ∧ KpAt H kp ∧ (∀ r ∈ kp, r.2.1 ≠ kd ∧ LTb r.2.2 ∧ InnOk 4 r.2.2) ∧ (ks kp).Nodup ∧ kp.length ≤ 20 ∧ Swept S kp ∧
  ∀ H', Ex H H' → Q (.bl true) H'
theorem law_swept_ok (T : Md K mg base) (hk : 6 ≤ k) : CallOk P w K mg base k "_law_swept" ["days", "kept"] (spLawSwept T.C_Days T.C_Store) := by
  obtain ⟨k, rfl⟩ : ∃ j, k = j + 1 := ⟨k - 1, by omega⟩
  refine T.d_law_swept.ok (N := ["days", "kept", "texts", "folders", "time", "text", "one", "parts", "piece", "pieces", "name"]) sc_law_swept (by rintro vs H Q E ⟨dy, st, d, tm, kd, S, ts, kp, rfl, -⟩; rfl) ?_
  rintro f cdv A outer s H vs Q E hr ⟨dy, st, d, tm, kd, S, ts, kp, rfl, da, wf, hkd, hkp, hok, ndk, hkl, sw, q⟩
  refine ⟨_, (pss_cons (ps_par (i := 2) (j := 3) rfl sc_law_swept.nd rfl rfl (by decide) rfl rfl (pa_cons pe_dnewK (pa_cons pe_dnewN pa_nil)) (by rfl))
    (pss_cons (ps_un (ps_for PassesOwn.never rfl (pi_keys (pe_lkA (pv 1))) (pg_name (i := 4) sc_law_swept.nd rfl (Or.inl rfl))
      (pss_cons (ps_un (ps_for PassesOwn.never rfl (pi_values (pe_lkA (pe_dget (hu_of hr) (pv 1) (pv 4) (fun _ _ => rfl)))) (pg_name (i := 5) sc_law_swept.nd rfl (Or.inl rfl))
        (pss_one (ps_dput (hu_of hr) (pv 2) (pv 5) pe_int rfl))))
      (pss_one (ps_for PassesOwn.never rfl (pi_list (pe_c (law_inner_ok T 4 _ (by omega)) hr (by rfl) (pa_cons (pe_dget (hu_of hr) (pv 1) (pv 4) (fun _ _ => rfl)) pa_nil))) (pg_name (i := 6) sc_law_swept.nd rfl (Or.inl rfl))
        (pss_one (ps_nput (hu64_of hr) (pv 3) (pv 6) pe_int rfl)))))))
    (pss_cons (ps_set (i := 7) sc_law_swept.nd rfl (Or.inl rfl) pe_dnewK)
    (pss_cons (ps_un (ps_for PassesOwn.never rfl (pi_keys (pe_lkA (pv 2))) (pg_name (i := 5) sc_law_swept.nd rfl (Or.inl rfl))
      (pss_one (ps_for PassesOwn.never rfl (pi_list (pe_c (law_cut_ok T (by omega)) hr (by rfl) (pa_cons (pv 5) pa_nil))) (pg_name (i := 8) sc_law_swept.nd rfl (Or.inl rfl))
        (pss_one (ps_dput (hu_of hr) (pv 7) (pe_op op_add_str pe_str (pv 8)) pe_int rfl))))))
    (pss_cons (ps_setLcF (own := [("name", 10)]) (i := 9) rfl sc_law_swept.nd rfl rfl (sw_true rfl rfl rfl (by decide +kernel)) (pi_tup (pe_m0 T.cl_Store (Store_names_ok T (by omega)) hr (pe_fld (pv 0) rfl))) (blkOk_by (own := [("name", 10)]) (N := ["days", "kept", "texts", "folders", "time", "text", "one", "parts", "piece", "pieces", "name"]) (sc := defScope st_law_swept) (by decide +kernel)) (fun _ _ _ _ _ => (by exact (pg_name (i := 10) sc_law_swept.nd rfl (Or.inl rfl)))) (fun _ _ _ _ _ => (by exact pts_nil)) (fun _ _ _ _ _ => (by exact (pe_m T.cl_Store (Store_get_ok T (by omega)) hr (pe_fld (pv 0) rfl) (pa_cons (pv 10) pa_nil)))) (by walk_at "lcf") (by walk_at "lcf") (by walk_at "lcf"))
    (pss_cons (ps_if (pt_cmpR op_ne (b_lenD T.b (pa_cons (b_dictL T.b (pa_cons (pe_lcF (own := [("piece", 8)]) rfl sc_law_swept.nd (pi_list (pv 9)) (blkOk_by (own := [("piece", 8)]) (N := ["days", "kept", "texts", "folders", "time", "text", "one", "parts", "piece", "pieces", "name"]) (sc := defScope st_law_swept) (by decide +kernel)) (fun _ _ _ _ _ => (by exact (pg_name (i := 8) sc_law_swept.nd rfl (Or.inl rfl)))) (fun _ _ _ _ _ => (by exact pts_nil)) (fun _ _ _ _ _ => (by exact (pe_tup (pa_cons (pv 8) (pa_cons pe_int pa_nil))))) (by walk_at "lcf") (by walk_at "lcf") (by walk_at "lcf")) pa_nil)) pa_nil)) (b_len T.b (pa_cons (pv 9) pa_nil)) (nomark _)) (pss_one (ps_ret pe_bl)) pss_nil)
    (pss_cons (ps_if (pt_cmpR (op_neP (hu64_of hr)) (b_sortedL T.b (hu64_of hr) (pa_cons (pe_lcF (own := [("piece", 8)]) rfl sc_law_swept.nd (pi_list (pv 9)) (blkOk_by (own := [("piece", 8)]) (N := ["days", "kept", "texts", "folders", "time", "text", "one", "parts", "piece", "pieces", "name"]) (sc := defScope st_law_swept) (by decide +kernel)) (fun _ _ _ _ _ => (by exact (pg_name (i := 8) sc_law_swept.nd rfl (Or.inl rfl)))) (fun _ _ _ _ _ => (by exact (pts_one (pt_cmpR op_eq (pe_ix ix_str (pv 8) pe_int (fun _ _ => rfl)) pe_str (nomark _))))) (fun _ _ _ _ _ => (by exact (pv 8))) (by walk_at "lcf") (by walk_at "lcf") (by walk_at "lcf")) pa_nil)) (b_sortedD T.b (hu64_of hr) (pa_cons (pv 7) pa_nil)) (nomark _)) (pss_one (ps_ret pe_bl)) pss_nil)
    (pss_one (ps_ret (pe_and (pe_cmpR op_eq (b_len T.b (pa_cons (pe_lcF (own := [("piece", 8)]) rfl sc_law_swept.nd (pi_list (pv 9)) (blkOk_by (own := [("piece", 8)]) (N := ["days", "kept", "texts", "folders", "time", "text", "one", "parts", "piece", "pieces", "name"]) (sc := defScope st_law_swept) (by decide +kernel)) (fun _ _ _ _ _ => (by exact (pg_name (i := 8) sc_law_swept.nd rfl (Or.inl rfl)))) (fun _ _ _ _ _ => (by exact (pts_one (pt_cmpR op_eq (pe_ix ix_str (pv 8) pe_int (fun _ _ => rfl)) pe_str (nomark _))))) (fun _ _ _ _ _ => (by exact pe_int)) (by walk_at "lcf") (by walk_at "lcf") (by walk_at "lcf")) pa_nil)) (b_lenD T.b (pa_cons (pv 2) pa_nil)) (nomark _)) (pe_one (pe_cmpR op_eq (b_len T.b (pa_cons (pe_lcF (own := [("piece", 8)]) rfl sc_law_swept.nd (pi_list (pv 9)) (blkOk_by (own := [("piece", 8)]) (N := ["days", "kept", "texts", "folders", "time", "text", "one", "parts", "piece", "pieces", "name"]) (sc := defScope st_law_swept) (by decide +kernel)) (fun _ _ _ _ _ => (by exact (pg_name (i := 8) sc_law_swept.nd rfl (Or.inl rfl)))) (fun _ _ _ _ _ => (by exact (pts_one (pt_cmpR op_eq (pe_ix ix_str (pv 8) pe_int (fun _ _ => rfl)) pe_str (nomark _))))) (fun _ _ _ _ _ => (by exact pe_int)) (by walk_at "lcf") (by walk_at "lcf") (by walk_at "lcf")) pa_nil)) (b_lenN T.b (pa_cons (pv 3) pa_nil)) (nomark _))))))))))))), ?_⟩
  obtain ⟨dx, hy⟩ := da.day
  obtain ⟨⟨dx2, hs⟩, hd⟩ := da.sto
  have hc := T.cl_Days
  have hn1 := T.na_Days_store
  refine tDNewN_par fun tx fo H1 htx hfo htf e1 h1 h2 => ?_
  refine s_forK (D := { nx := _, rt := _ }) (N := NF _) (C := fun a => a = kd) (te := tVar 1) (kvs := tKp kp) (fun Q' q' => ev_use (v := .ref kd) (ev_var rfl) fun H2 e2 => q' kd H2 rfl e2 (ex_rd (e1.trans e2) hkd)) fun d' H2 B od hd' e2 l => ?_
  subst hd'
  have e12 := e1.trans e2
  have hrdn : ∀ {x : Addr} {u : HO}, H x = none → Rd H d' u → x ≠ d' := fun hx hr z => by
    subst z
    rcases hr with g | ⟨o, g⟩ <;> rw [hx] at g <;> cases g
  have htxd : tx ≠ d' := hrdn htx hkd
  have hfod : fo ≠ d' := hrdn hfo hkd
  have htxB : B tx = some (.dK []) := by rw [l.off _ htxd]; exact e2 _ _ h1
  have hfoB : B fo = some (.ext (ndF w fo [])) := by rw [l.off _ hfod]; exact e2 _ _ h2
  have hkpB : KpAt B kp := fun r hr => l.dic (ex_rd e12 (hkp r hr))
  have hne2 : ∀ r ∈ kp, ∀ x ∈ [tx, fo], r.2.1 ≠ x := fun r hr => all2 (fun z => by
      rcases hkp r hr with g | ⟨o, g⟩ <;> rw [z, htx] at g <;> cases g) (fun z => by
      rcases hkp r hr with g | ⟨o, g⟩ <;> rw [z, hfo] at g <;> cases g)
  have hntB : ∀ x ∈ [tx, fo], ∀ ys, ¬ Rd B x (.tup ys) := all2 (notup_d (rd_of htxB)) (notup_e hfoB)
  refine ⟨fun i σ' H' => Exs [tx, fo] B H' ∧ (∃ t : List (Str × Int), H' tx = some (.dK (tN t)) ∧ (ks t).Nodup ∧ ∀ x, x ∈ ks t ↔ ∃ r ∈ kp.take i, x ∈ valsF r.2.2) ∧
      (∃ fs : List (Rw × Addr), ND w K H' fo fs ∧ (fs.map (·.1)).Nodup ∧ ∀ G, G ∈ fs.map (·.1) ↔ ∃ r ∈ kp.take i, G ∈ inn 4 r.2.2) ∧ ∃ u4 u5 u6, σ' = [some (.ref dy), some (.ref d'), some (.ref tx), some (.ref fo), u4, u5, u6, none, none, none, none],
    ⟨Exs.refl _ _, ⟨[], htxB, by simp [ks], by simp [ks]⟩, ⟨[], ⟨hfoB, fun _ h => (nomatch h)⟩, by simp, by simp⟩, _, _, _, rfl⟩, fun i σ' H' h => h.1 _ _ (by simp [Ne.symm htxd, Ne.symm hfod]) l.there, ?_, ?_⟩
  · rintro i kk vv σ' H' hi ⟨ex, ⟨t, ht', ndt, hmt⟩, ⟨fs, hnd, ndf, hmf⟩, u4, u5, u6, rfl⟩
    obtain ⟨r, hr1, hri, rfl, rfl⟩ := en_at hi
    have hlkd : H' d' = some (.frz od (.dK (tKp kp))) := ex _ _ (by simp [Ne.symm htxd, Ne.symm hfod]) l.there
    have hrn : r.2.1 ∉ [tx, fo] := fun z => hne2 r hr1 _ z rfl
    have hF : Rd H' r.2.1 (.dK (tD r.2.2)) := ex.rd hrn (hkpB r hr1)
    obtain ⟨hrd, okF, okI⟩ := hok r hr1
    refine s_forV (D := { nx := _, rt := _, ct := _, bk := _ }) (N := NF _) (σ := [some (.ref dy), some (.ref d'), some (.ref tx), some (.ref fo), some (.int r.1), u5, u6, none, none, none, none]) (C := fun a => a = r.2.1) (te := tDGet (tVar 1) (tVar 4)) (kvs := tD r.2.2) (fun Q' q' => ev_use (ev_dget (k := .inl r.1) (ev_var rfl) (ev_var rfl) (.inr ⟨_, hlkd⟩) (by rw [en_look inl_inj', lk_of ndk hr1]; rfl)) fun H2 e2 => q' r.2.1 H2 rfl e2 (ex_rd e2 hF)) fun a H2 B2 od2 ha e3 l2 => ?_
    subst ha
    have htx2 : H2 tx = some (.dK (tN t)) := e3 _ _ ht'
    have hnd2 := hnd.ex e3
    have ha1 : r.2.1 ≠ tx := fun z => hrn (by simp [z])
    have ha2 : r.2.1 ≠ fo := fun z => hrn (by simp [z])
    have htx3 : B2 tx = some (.dK (tN t)) := by rw [l2.off _ (Ne.symm ha1)]; exact htx2
    have hrp : r ∈ kp := hr1
    have hmem20 : ∀ ys : List Str, ys.Nodup → (∀ y ∈ ys, ∃ r ∈ kp, y ∈ valsF r.2.2) → ys.length ≤ 240 := fun ys n hy => by
      have z := nd_sub_len (ys := kp.flatMap fun r => valsF r.2.2) n fun y h => List.mem_flatMap.mpr (hy y h)
      have z2 := flat_len (l := kp) (f := fun r => valsF r.2.2) (b := 12) fun r hr => by
        have := (hok r hr).2.1.len
        unfold valsF; rw [List.length_map]; exact this
      have z3 : kp.length * 12 ≤ 20 * 12 := Nat.mul_le_mul_right 12 hkl
      omega
    refine ⟨fun j σ'' H'' => Exs [tx] B2 H'' ∧ (∃ t2 : List (Str × Int), H'' tx = some (.dK (tN t2)) ∧ (ks t2).Nodup ∧ ∀ x, x ∈ ks t2 ↔ x ∈ ks t ∨ x ∈ (valsF r.2.2).take j) ∧ ∃ u5, σ'' = [some (.ref dy), some (.ref d'), some (.ref tx), some (.ref fo), some (.int r.1), u5, u6, none, none, none, none],
      ⟨Exs.refl _ _, ⟨t, htx3, ndt, by simp⟩, _, rfl⟩, fun j σ'' H'' h => h.1 _ _ (by simpa using ha1) l2.there, ?_, ?_⟩
    · rintro j kk vv σ'' H'' hj ⟨ex2, ⟨t2, ht2, nd2, hm2⟩, v5, rfl⟩
      obtain ⟨q1, hq1, hqj, rfl, rfl⟩ := en_at hj
      have hvj : (valsF r.2.2)[j]? = some q1.2 := by unfold valsF; rw [List.getElem?_map, hqj]; rfl
      have hsub : ∀ y ∈ ks t2, ∃ r ∈ kp, y ∈ valsF r.2.2 := fun y h => ((hm2 y).mp h).elim (fun g => let ⟨r', h1, h2⟩ := (hmt y).mp g; ⟨r', List.mem_of_mem_take h1, h2⟩) fun g => ⟨r, hr1, List.mem_of_mem_take g⟩
      have hl2 := hmem20 _ nd2 hsub
      unfold ks at hl2
      rw [List.length_map] at hl2
      show sDPut _ _ _ _ [some (.ref dy), some (.ref d'), some (.ref tx), some (.ref fo), some (.int r.1), some (.str q1.2), u6, none, none, none, none] H''
      refine s_dput (k := .inr q1.2) (v := .int 1) ev_c (ev_var rfl) (ev_var rfl) ht2 (by rw [en_len]; exact sz_lt (by omega)) fun H5 e5 => ?_
      refine ⟨exs_upd (ex2.then e5) (by simp), ⟨pu t2 q1.2 1, by rw [upd_same]; exact congrArg (fun y => some (HO.dK y)) (en_put inr_inj' t2 q1.2 1), nd_pu nd2, fun x => ?_⟩, _, rfl⟩
      rw [mem_ks_pu, hm2, mem_take' hvj]
      constructor
      · rintro (h | h | h)
        · exact .inr (.inr h)
        · exact .inl h
        · exact .inr (.inl h)
      · rintro (h | h | h)
        · exact .inr (.inl h)
        · exact .inr (.inr h)
        · exact .inl h
    · rintro σ'' H'' ⟨ex2, ⟨t2, ht2, nd2, hm2⟩, v5, rfl⟩ Hf g1 g2
      have e0 : (valsF r.2.2).take (tD r.2.2).length = valsF r.2.2 := List.take_of_length_le (by rw [en_len]; unfold valsF; rw [List.length_map]; exact Nat.le_refl _)
      rw [e0] at hm2
      have exf : Exs [tx] H2 Hf := exs_un l2 ex2 g1 g2
      have htf' : Hf tx = some (.dK (tN t2)) := by rw [g1 _ (Ne.symm ha1)]; exact ht2
      have hndf : ND w K Hf fo fs := ⟨exf _ _ (by simpa using Ne.symm htf) hnd2.at', fun p hp => (hnd2.its p hp).exs exf (all1 (notup_d (rd_of htx2)))⟩
      have hlk2 : Hf d' = some (.frz od (.dK (tKp kp))) := exf _ _ (by simpa using Ne.symm htxd) (e3 _ _ hlkd)
      have hF2 : Rd Hf r.2.1 (.dK (tD r.2.2)) := exf.rd (by simpa using ha1) (ex_rd e3 hF)
      refine cl_use (σ := [some (.ref dy), some (.ref d'), some (.ref tx), some (.ref fo), some (.int r.1), v5, u6, none, none, none, none]) (vs := [.ref r.2.1]) (ea_cons (ev_dget (k := .inl r.1) (ev_var rfl) (ev_var rfl) (.inr ⟨_, hlk2⟩) (by rw [en_look inl_inj', lk_of ndk hr1]; rfl)) ea_nil) fun H5 e5 => ⟨r.2.1, r.2.2, rfl, ex_rd e5 hF2, okI, fun L ms H6 hL e6 hL6 hMP => ⟨L, rfl, ⟨_, sq_of hL6⟩, ?_⟩⟩
      have e56 := e5.trans e6
      have hnd6 := hndf.ex e56
      have hLf : L ≠ fo := fun z => by rw [z, e5 _ _ hndf.at'] at hL; cases hL
      refine for_list (fun j σ'' H'' => Exs [fo] H6 H'' ∧ (∃ fs2 : List (Rw × Addr), ND w K H'' fo fs2 ∧ (fs2.map (·.1)).Nodup ∧ ∀ G, G ∈ fs2.map (·.1) ↔ G ∈ fs.map (·.1) ∨ G ∈ (inn 4 r.2.2).take j) ∧ ∃ u6, σ'' = [some (.ref dy), some (.ref d'), some (.ref tx), some (.ref fo), some (.int r.1), v5, u6, none, none, none, none])
        ⟨Exs.refl _ _, ⟨fs, hnd6, ndf, by simp⟩, _, rfl⟩ (fun j σ'' H'' _ h => exs_l h.1 (all1 fun ys g => by rcases g with g | ⟨o, g⟩ <;> rw [hnd6.at'] at g <;> cases g) (sq_of hL6)) ?_ ?_
      · rintro j x σ'' H'' hj ⟨ex6, ⟨fs2, nd6, ndf2, hm6⟩, v6, rfl⟩
        obtain ⟨a, G, rfl, hGj, hI⟩ := ref_at hMP hj
        have hI' : Itm K H'' a G := hI.exs ex6 (all1 (notup_e hnd6.at'))
        have hl6 : (fs2.map (·.1)).length ≤ 40000 := by
          have z := nd_sub_len (ys := kp.flatMap fun r => inn 4 r.2.2) ndf2 fun y h => List.mem_flatMap.mpr (((hm6 y).mp h).elim (fun g => let ⟨r', h1, h2⟩ := (hmf y).mp g; ⟨r', List.mem_of_mem_take h1, h2⟩) fun g => ⟨r, hr1, List.mem_of_mem_take g⟩)
          have z2 := flat_len (l := kp) (f := fun r => inn 4 r.2.2) (b := 2000) fun r hr => (hok r hr).2.2.2.2.2.1
          have z3 : kp.length * 2000 ≤ 20 * 2000 := Nat.mul_le_mul_right 2000 hkl
          omega
        rw [List.length_map] at hl6
        have ex7 : Exs [fo] H'' (L2.upd H'' fo (.ext (ndF w fo (stF fs2 G a)))) := exs_upd (Exs.refl _ _) (by simp)
        have ntf : ∀ d ∈ [fo], ∀ ys, ¬ Rd H'' d (.tup ys) := all1 (notup_e nd6.at')
        refine ⟨_, rfl, _, rfl, fo, a, fs2, G, rfl, rfl, nd6, hI', sz_lt (by omega), exs_upd ex6 (by simp), ⟨stF fs2 G a, ⟨upd_same, fun p hp => ?_⟩, stF_nd ndf2, fun G' => ?_⟩, _, rfl⟩
        · have hp' : p ∈ fs2 ∨ p = (G, a) := by
            unfold stF at hp
            split at hp
            · exact .inl hp
            · exact (List.mem_append.mp hp).imp id List.mem_singleton.mp
          rcases hp' with hp' | rfl
          · exact (nd6.its p hp').exs ex7 ntf
          · exact hI'.exs ex7 ntf
        · rw [stF_mem, hm6, mem_take' hGj, or_assoc]
      · rintro σ'' H'' ⟨ex6, ⟨fs2, nd6, ndf2, hm6⟩, v6, rfl⟩
        have e1' : (inn 4 r.2.2).take (ms.map V.ref).length = inn 4 r.2.2 := List.take_of_length_le (by rw [List.length_map, show ms.length = _ from Paired.length hMP]; exact Nat.le_refl _)
        rw [e1'] at hm6
        refine ⟨ex.trans ((exs_of e3).trans ((exf.mono (by simp)).trans ((exs_of e56).trans (ex6.mono (by simp))))), ⟨t2, ex6 _ _ (by simpa using htf) (e56 _ _ htf'), nd2, fun x => ?_⟩, ⟨fs2, nd6, ndf2, fun G => ?_⟩, _, _, _, rfl⟩
        · rw [hm2, hmt, ex_take hri fun r => x ∈ valsF r.2.2]
        · rw [hm6, hmf, ex_take hri fun r => G ∈ inn 4 r.2.2]
  · rintro σ' H' ⟨ex, ⟨t, ht', ndt, hmt⟩, ⟨fs, hnd, ndf, hmf⟩, u4, u5, u6, rfl⟩ Hf g1 g2
    have e0 : kp.take (tKp kp).length = kp := List.take_of_length_le (by rw [en_len]; exact Nat.le_refl _)
    rw [e0] at hmt hmf
    have exf : Exs [tx, fo] H2 Hf := exs_un l ex g1 g2
    have eF : Ex H Hf := fun a o ho => exf a o (fun z => by
      rcases List.mem_cons.mp z with rfl | z
      · rw [htx] at ho; cases ho
      · rw [List.mem_singleton.mp z, hfo] at ho; cases ho) (e12 _ _ ho)
    have htf' : Hf tx = some (.dK (tN t)) := by rw [g1 _ htxd]; exact ht'
    have hfof : Hf fo = some (.ext (ndF w fo fs)) := by rw [g1 _ hfod]; exact hnd.at'
    have hnds : ∀ p ∈ fs, Itm K Hf p.2 p.1 := fun p hp => by
      obtain ⟨us, x, y⟩ := hnd.its p hp
      have nt : ∀ {a xs}, SqT K H' a xs → SqT K Hf a xs := fun {a xs} h => h.elim (fun h => by
        have hne : a ≠ d' := fun z => by
          have hl := ex d' _ (by simp [Ne.symm htxd, Ne.symm hfod]) l.there
          rw [z] at h
          rcases h with h | ⟨o, h⟩ <;> rw [hl] at h <;> cases h
        rcases h with h | ⟨o, h⟩
        · exact .inl (.inl (by rw [g1 _ hne]; exact h))
        · exact .inl (.inr ⟨o, by rw [g1 _ hne]; exact h⟩)) .inr
      exact ⟨us, nt x, gv_pair (fun _ _ h => nt h) y⟩
    have hndf : ND w K Hf fo fs := ⟨hfof, hnds⟩
    have htl : (ks t).length ≤ 240 := by
      have z := nd_sub_len (ys := kp.flatMap fun r => valsF r.2.2) ndt fun y h => List.mem_flatMap.mpr ((hmt y).mp h)
      have z2 := flat_len (l := kp) (f := fun r => valsF r.2.2) (b := 12) fun r hr => by
        have := (hok r hr).2.1.len
        unfold valsF; rw [List.length_map]; exact this
      have z3 : kp.length * 12 ≤ 20 * 12 := Nat.mul_le_mul_right 12 hkl
      omega
    have htt : ∀ x ∈ ks t, x.length ≤ 200 := fun x hx => by
      obtain ⟨r, hr, hv⟩ := (hmt x).mp hx
      obtain ⟨q1, hq, rfl⟩ := List.mem_map.mp hv
      exact (hok r hr).2.1.txt _ hq
    refine q_asgN (σ := [some (.ref dy), some (.ref d'), some (.ref tx), some (.ref fo), u4, u5, u6, none, none, none, none]) en_dnew fun pt H3 hpt e3 h3 => ?_
    have hptt : pt ≠ tx := fun z => by rw [z, htf'] at hpt; cases hpt
    refine s_forK (D := { nx := _, rt := _ }) (N := NF _) (C := fun a => a = tx) (te := tVar 2) (kvs := tN t) (σ := [some (.ref dy), some (.ref d'), some (.ref tx), some (.ref fo), u4, u5, u6, some (.ref pt), none, none, none]) (fun Q' q' => ev_use (v := .ref tx) (ev_var rfl) fun H4 e4 => q' tx H4 rfl e4 (rd_of (e4 _ _ (e3 _ _ htf')))) fun d3 H4 B3 od3 hd3 e4 l3 => ?_
    subst hd3
    have hptB : B3 pt = some (.dK []) := by rw [l3.off _ hptt]; exact e4 _ _ h3
    refine ⟨fun i σ' H' => Exs [pt] B3 H' ∧ (∃ p : List (Str × Int), H' pt = some (.dK (tN p)) ∧ (ks p).Nodup ∧ ∀ y, y ∈ ks p ↔ ∃ x ∈ (ks t).take i, ∃ c ∈ cutsS x, y = ("p" : Str) ++ c) ∧ ∃ u5 u8, σ' = [some (.ref dy), some (.ref d'), some (.ref d3), some (.ref fo), u4, u5, u6, some (.ref pt), u8, none, none],
      ⟨Exs.refl _ _, ⟨[], hptB, by simp [ks], by simp [ks]⟩, _, _, rfl⟩, fun i σ' H' h => h.1 _ _ (by simpa using Ne.symm hptt) l3.there, ?_, ?_⟩
    · rintro i kk vv σ' H5 hi ⟨ex3, ⟨p, hp, ndp, hmp⟩, v5, v8, rfl⟩
      obtain ⟨r, hr1, hri, rfl, rfl⟩ := en_at hi
      have hx : r.1 ∈ ks t := List.mem_map.mpr ⟨r, hr1, rfl⟩
      have hxi := ks_at hri
      have hxl := htt _ hx
      show tFor _ _ _ _ [some (.ref dy), some (.ref d'), some (.ref d3), some (.ref fo), u4, some (.str r.1), u6, some (.ref pt), v8, none, none] H5
      refine s_forN (K := K) (xs := (cutsS r.1).map V.str) (en_cl mono_lawcut (ea_cons (ev_var rfl) ea_nil) ⟨r.1, rfl, by omega, rfl⟩)
        (fun pl j σ'' H'' => Exs [pt] H5 H'' ∧ pl ≠ pt ∧ H'' pl = some (.lst ((cutsS r.1).map V.str)) ∧ (∃ p2 : List (Str × Int), H'' pt = some (.dK (tN p2)) ∧ (ks p2).Nodup ∧ ∀ y, y ∈ ks p2 ↔ y ∈ ks p ∨ ∃ c ∈ (cutsS r.1).take j, y = ("p" : Str) ++ c) ∧ ∃ u8, σ'' = [some (.ref dy), some (.ref d'), some (.ref d3), some (.ref fo), u4, some (.str r.1), u6, some (.ref pt), u8, none, none]) ?_ ?_ ?_ ?_
      · intro pl H6 hpl e6 h6
        exact ⟨exs_of e6, (fun z => by rw [z, hp] at hpl; cases hpl), h6, ⟨p, e6 _ _ hp, ndp, by simp⟩, _, rfl⟩
      · rintro pl j σ'' H'' _ ⟨_, _, h, _⟩
        exact sq_of h
      · rintro pl j x σ'' H'' hj ⟨ex6, hpl, hpl6, ⟨p2, hp2, ndp2, hmp2⟩, w8, rfl⟩
        obtain ⟨c, hc1, hcj, rfl⟩ := map_at' hj
        have hcl : c.length ≤ 1000 := by have := cuts_sz hxl hc1; omega
        have hl2 : (ks p2).length ≤ 50000 := by
          have z := nd_sub_len (ys := (ks t).flatMap fun x => (cutsS x).map fun c => ("p" : Str) ++ c) ndp2 fun y h => by
            rcases (hmp2 y).mp h with g | ⟨c', hc', rfl⟩
            · obtain ⟨x, hx', c', hc', rfl⟩ := (hmp y).mp g
              exact List.mem_flatMap.mpr ⟨x, List.mem_of_mem_take hx', List.mem_map.mpr ⟨c', hc', rfl⟩⟩
            · exact List.mem_flatMap.mpr ⟨r.1, hx, List.mem_map.mpr ⟨c', List.mem_of_mem_take hc', rfl⟩⟩
          have z2 := flat_len (l := ks t) (f := fun x => (cutsS x).map fun c => ("p" : Str) ++ c) (b := 201) fun x hx => by rw [List.length_map]; exact cuts_cnt (htt x hx)
          have z3 : (ks t).length * 201 ≤ 240 * 201 := Nat.mul_le_mul_right 201 htl
          omega
        have hl3 := hl2
        unfold ks at hl3
        rw [List.length_map] at hl3
        have hz : ("p" : Str).length + c.length ≤ sizeLine := sz_of (by have : ("p" : Str).length = 1 := rfl; omega)
        show sDPut _ _ _ _ [some (.ref dy), some (.ref d'), some (.ref d3), some (.ref fo), u4, some (.str r.1), u6, some (.ref pt), some (.str c), none, none] H''
        refine s_dput (k := .inr (("p" : Str) ++ c)) (v := .int 1) ev_c (ev_var rfl) (ev_op ev_c (ev_var rfl) (rv_addS hz)) hp2 (by rw [en_len]; exact sz_lt (by omega)) fun H7 e7 => ?_
        refine ⟨exs_upd (ex6.then e7) (by simp), hpl, by rw [upd_ne hpl]; exact e7 _ _ hpl6, ⟨pu p2 (("p" : Str) ++ c) 1, by rw [upd_same]; exact congrArg (fun y => some (HO.dK y)) (en_put inr_inj' p2 _ 1), nd_pu ndp2, fun y => ?_⟩, _, rfl⟩
        rw [mem_ks_pu, hmp2, ex_take hcj fun c => y = ("p" : Str) ++ c, or_left_comm, or_comm (a := y = _)]
      · rintro pl σ'' H'' ⟨ex6, hpl, hpl6, ⟨p2, hp2, ndp2, hmp2⟩, w8, rfl⟩
        rw [List.length_map, List.take_length] at hmp2
        exact ⟨ex3.trans ex6, ⟨p2, hp2, ndp2, fun y => by rw [hmp2, hmp, ex_take hxi fun x => ∃ c ∈ cutsS x, y = ("p" : Str) ++ c]⟩, _, _, rfl⟩
    · rintro σ' H5 ⟨ex3, ⟨p, hp, ndp, hmp⟩, v5, v8, rfl⟩ Hg k1 k2
      have e1' : (ks t).take (tN t).length = ks t := List.take_of_length_le (by rw [en_len]; unfold ks; rw [List.length_map]; exact Nat.le_refl _)
      rw [e1'] at hmp
      have exg : Exs [pt] H4 Hg := exs_un l3 ex3 k1 k2
      have eG : Ex Hf Hg := fun a o ho => exg a o (fun z => by rw [List.mem_singleton.mp z, hpt] at ho; cases ho) (e4 _ _ (e3 _ _ ho))
      have hpg : Hg pt = some (.dK (tN p)) := by rw [k1 _ hptt]; exact hp
      have htg := eG _ _ htf'
      have hndg := hndf.ex eG
      have eT := eF.trans eG
      have hnm : ∀ n ∈ sortS (ks S), ∃ x, lk S n = some x := fun n hn => mem_ks (mem_sortS.mp hn)
      have hsl : (sortS (ks S)).length ≤ 90000 := by rw [(sortS_perm _).length_eq]; unfold ks; rw [List.length_map]; exact wf.few
      have hyG := eT _ _ hy
      have hsG := eT _ _ hs
      have hdG := eT _ _ hd
      dsimp only
      refine q_asgN (o := .lst ((pcs S).map V.str)) (en_is (en_lcT (α := Str) (f := fun n => V.str ((lk S n).getD "")) (lc_T (sortS (ks S)) V.str _ _ ?_ hsl (fun _ => rfl) m_val (fun _ _ _ _ => et_yes) ?_)) (by unfold pcs; rw [List.map_map]; rfl)) fun Z H6 hZ e6 h6 => ?_
      · exact ex_N (en_mt mono_names (ev_fld (ev_var rfl) hyG hc hn1 rfl) hsG rfl ea_nil ⟨st, d, S, rfl, da.sto.ex eT, rfl⟩)
      · intro n H6 hn _ e6
        obtain ⟨x, hx⟩ := hnm n hn
        rw [hx]
        refine ev_x (fun H7 e7 Q' q' => ?_)
        exact mt_use (vs := [.str n]) (ev_fld (ev_var rfl) (e7 _ _ (e6 _ _ hyG)) hc hn1 rfl) (e7 _ _ (e6 _ _ hsG)) rfl (ea_cons (ev_var rfl) ea_nil) fun H8 e8 => ⟨st, d, S, n, rfl, da.sto.ex (((eT.trans e6).trans e7).trans e8), wf, fun y hy' H9 e9 => by
          rw [hx] at hy'
          cases hy'
          exact q' H9 (e8.trans e9), fun z => by rw [hx] at z; cases z⟩
      have hpz : ∀ y ∈ pcs S, y.length ≤ 100000 := fun y hy => by
        obtain ⟨n, hn, rfl⟩ := List.mem_map.mp hy
        obtain ⟨x, hx⟩ := hnm n hn
        rw [hx]
        have := wf.sz _ (lk_mem hx)
        show x.length ≤ 100000
        have h2 : x.length ≤ 5000 := this
        omega
      have hpl : (pcs S).length ≤ 90000 := by unfold pcs; rw [List.length_map]; exact hsl
      refine q_when (b := false) ?_ nofun fun _ H7 e7 => ?_
      · have hk1 : ks ((pcs S).map fun y => (y, (1 : Int))) = pcs S := by unfold ks; rw [List.map_map]; exact List.map_id _
        refine et_is (et_test (ev_op (ev_lenDN (kvs := en Sum.inr V.int ((pcs S).map fun y => (y, (1 : Int)))) (en_is (en_dictP (α := Str) (b := fun _ => true) (kv := fun y => (Sum.inr y, V.int 1)) (lc_L (pcs S) V.str (fun _ => true) _ (ev_var rfl) (sq_of h6) hpl (fun _ => rfl) m_tup (fun _ _ _ _ => et_yes) fun y H1 _ _ _ => ex_tup (ea_cons (ev_var rfl) (ea_cons ev_c ea_nil)) (by simp))) ?_)) (ev_cb (ea_cons (ev_var rfl) ea_nil) (rc_len (.lst (sq_of h6)))) (rv_ne rfl))) ?_
        · rw [filter_true]
          have z := en_merge0 (ka := Sum.inr) (vb := V.int) inr_inj' ((pcs S).map fun y => (y, (1 : Int)))
          rw [mrg_nd (by rw [hk1]; exact sw.nd)] at z
          refine congrArg HO.dK (Eq.trans ?_ z)
          unfold en
          rw [List.map_map]; rfl
        · rw [en_len, List.length_map, List.length_map]; simp
      have h67 := e7 _ _ h6
      have eT7 := (eT.trans e6).trans e7
      refine q_when (b := false) ?_ nofun fun _ H8 e8 => ?_
      · refine et_is (et_test (ev_neSS (xs := sortS ((pcs S).filter fun y => decide (hdS y = some 112))) (ys := sortS (ks p)) (en_srtSN (en_lc (α := Str) (as := pcs S) (b := fun y => decide (hdS y = some 112)) (f := V.str) (lc_L (pcs S) V.str _ _ (ev_var rfl) (sq_of h67) hpl (fun _ => rfl) m_val ?_ fun _ _ _ _ _ => ev_x (ev_var rfl)))) (en_srtDS (ev_var rfl) (rd_of (e7 _ _ (e6 _ _ hpg))) (en_keys p)))) ?_
        · intro y H1 hy' _
          obtain ⟨c, hc'⟩ := sw.ne y hy'
          exact et_is (et_test (ev_op (ev_hd hc' (hpz y hy') rfl) ev_c (rv_eq rfl))) (hd_is hc' "p" (by decide))
        · rw [sortS_eq (l := (pcs S).filter fun y => decide (hdS y = some 112)) (m := ks p) ?_]
          · simp
          · refine (List.perm_ext_iff_of_nodup (sw.nd.filter _) ndp).mpr fun y => ?_
            rw [List.mem_filter, decide_eq_true_eq, sw.par y, hmp]
            constructor
            · rintro ⟨r, hr, x, hx, h⟩
              exact ⟨x, (hmt x).mpr ⟨r, hr, hx⟩, h⟩
            · rintro ⟨x, hx, h⟩
              obtain ⟨r, hr, hx'⟩ := (hmt x).mp hx
              exact ⟨r, hr, x, hx', h⟩
      have h68 := e8 _ _ h67
      have eT8 := eT7.trans e8
      have cnt : ∀ (e : Nat) (z : Str), z = ⟨#[e]⟩ → ∀ H9, Ex H8 H9 → Ev (tCB (rLn K) (tCons (tLc (iList K (tVar 9)) (gName 8) (tTest (tOp rEq (tOp rIxS (tVar 8) (tC (.int 0))) (tC (.str z)))) (tC (.int 1)) [8]) tNil)) [some (.ref dy), some (.ref d'), some (.ref d3), some (.ref fo), u4, v5, u6, some (.ref pt), v8, some (.ref Z), none] H9 (.int ((((pcs S).filter fun y => decide (hdS y = some e)).length : Nat) : Int)) := fun e z hz H9 e9 => by
        refine ev_is (ev_lenLN (en_lc (α := Str) (as := pcs S) (b := fun y => decide (hdS y = some e)) (f := fun _ => V.int 1) (lc_L (pcs S) V.str _ _ (ev_var rfl) (sq_of (e9 _ _ h68)) hpl (fun _ => rfl) m_val ?_ fun _ _ _ _ _ => ev_x ev_c))) (by rw [List.length_map])
        intro y H1 hy' _
        obtain ⟨c, hc'⟩ := sw.ne y hy'
        exact et_is (et_test (ev_op (ev_hd hc' (hpz y hy') rfl) ev_c (rv_eq rfl))) (hd_is hc' z hz)
      have kt : ((pcs S).filter fun y => decide (hdS y = some 108)).length = (tN t).length := by
        rw [sw.txt (ks t) ndt hmt, en_len]; unfold ks; rw [List.length_map]
      have kf : ((pcs S).filter fun y => decide (hdS y = some 116)).length = fs.length := by
        rw [sw.fol (fs.map (·.1)) ndf hmf, List.length_map]
      refine s_ret (v := .bl true) (fun H9 e9 Q' q' => ?_) fun H9 e9 => q H9 (eT8.trans e9)
      refine ev_use (ev_op (cnt 108 "l" (by decide) H9 e9) (ev_cb (ea_cons (ev_var rfl) ea_nil) (rc_len (.dic (rd_of (e9 _ _ (e8 _ _ (e7 _ _ (e6 _ _ htg)))))))) (rv_eq rfl)) fun H10 e10 => ⟨_, rfl, ?_⟩
      rw [if_pos (by rw [kt]; simp)]
      refine ev_use (ev_op (cnt 116 "t" (by decide) H10 (e9.trans e10)) (ev_lenND (ev_var rfl) (((((hndg.ex e6).ex e7).ex e8).ex e9).ex e10)) (rv_eq rfl)) fun H11 e11 => ?_
      have z := q' H11 (e10.trans e11)
      rw [kf]
      simpa using z
end
end Kw


set_option Elab.async false
set_option linter.all false
set_option maxRecDepth 100000
set_option maxHeartbeats 4000000
/-! Law9: the law's look at a store that lacks a piece. -/
namespace Kw
open PySem PySem.Spec PyProof.Rows L2 Evl
local macro_rules
  | `(tactic| walk_at "hp") => `(tactic| first
      | exact prp (by assumption)
      | exact rfl
      | exact upd_same
      | ((with_reducible apply sq_of); first | assumption | exact upd_same)
      | ((with_reducible apply st_of); first | assumption | exact upd_same)
      | ((with_reducible apply rd_of); first | assumption | exact upd_same)
      | ((with_reducible apply ex_l); assumption; walk_at "hp")
      | ((with_reducible apply ex_t); assumption; walk_at "hp")
      | ((with_reducible apply ex_rd); assumption; walk_at "hp")
      | ((with_reducible apply ex_at); assumption; walk_at "hp")
      | ((with_reducible apply Or.inl); walk_at "hp")
      | ((with_reducible apply Or.inr); walk_at "hp")
      | ((with_reducible apply LenD.lst); walk_at "hp")
      | ((with_reducible apply LenD.tup); walk_at "hp")
      | ((with_reducible apply LenD.dic); walk_at "hp")
      | ((with_reducible apply LenD.str); walk_at "hp")
      | ((with_reducible apply mulR); decide)
      | ((with_reducible apply mulL); decide)
      | decide
      | omega)
local macro_rules
  | `(tactic| walk_at "ev") => `(tactic| ((fail_if_success (with_reducible apply ev_bad)); (fail_if_success (with_reducible apply et_bad)); (fail_if_success (with_reducible apply ea_bad)); (fail_if_success (with_reducible apply en_bad)); first
      | ((with_reducible apply ev_var); exact rfl)
      | (with_reducible exact ev_c)
      | (with_reducible exact ea_nil)
      | (with_reducible exact eo_none)
      | ((with_reducible apply eo_some) <;> try walk_at "ev")
      | ((with_reducible apply ea_cons) <;> try walk_at "ev")
      | ((with_reducible apply ev_inTup) <;> try walk_at "ev")
      | ((with_reducible apply ev_niTup) <;> try walk_at "ev")
      | ((with_reducible apply ev_ixP) <;> try walk_at "ev")
      | (with_reducible exact rv_isN)
      | (with_reducible exact rv_notN)
      | ((with_reducible apply ev_op) <;> try walk_at "ev")
      | (with_reducible exact rv_I0)
      | ((with_reducible apply rv_I) <;> try walk_at "hp")
      | ((with_reducible apply rv_eq); exact rfl)
      | ((with_reducible apply rv_ne); exact rfl)
      | ((with_reducible apply rv_addS) <;> try walk_at "hp")
      | ((with_reducible apply rv_ixL); walk_at "hp"; walk_at "hp")
      | ((with_reducible apply rv_ixT); walk_at "hp"; walk_at "hp")
      | ((with_reducible apply ev_cb) <;> try walk_at "ev")
      | ((with_reducible apply rc_len); walk_at "hp")
      | (with_reducible exact rc_ord)
      | ((with_reducible apply rc_str) <;> try walk_at "hp")
      | (with_reducible exact rc_int)
      | (with_reducible exact rc_intB)
      | (with_reducible exact rc_abs)
      | (with_reducible exact rc_max2)
      | (with_reducible exact rc_min2)
      | ((with_reducible apply ev_joinN) <;> try walk_at "ev")
      | ((with_reducible apply ev_m1) <;> try walk_at "ev")
      | ((with_reducible apply rm_strip) <;> try walk_at "hp")
      | (with_reducible exact rm_starts)
      | ((with_reducible apply rm_join) <;> try walk_at "hp")
      | ((with_reducible apply ev_slS) <;> try walk_at "ev")
      | ((with_reducible apply ev_dget) <;> try walk_at "ev")
      | ((with_reducible apply ev_din) <;> try walk_at "ev")
      | ((with_reducible apply ev_dnotin) <;> try walk_at "ev")
      | ((with_reducible apply ev_fld) <;> try walk_at "ev")
      | ((with_reducible apply et_test) <;> try walk_at "ev")
      | ((with_reducible apply et_B) <;> try walk_at "ev")
      | ((with_reducible apply et_and) <;> try walk_at "ev")
      | ((with_reducible apply et_or) <;> try walk_at "ev")
      | ((with_reducible apply et_not) <;> try walk_at "ev")
      | (with_reducible exact en_dnew)
      | (with_reducible exact et_yes)
      | ((with_reducible apply ex_tup) <;> try walk_at "ev")
      | ((with_reducible apply en_slL) <;> try walk_at "ev")
      | ((with_reducible apply en_split) <;> try walk_at "ev")
      | ((with_reducible apply en_part) <;> try walk_at "ev")
      | walk_at "hp"
      | ((with_reducible refine fun hb => ?_); try walk_at "ev")))
local macro_rules
  | `(tactic| walk_at "lcf") => `(tactic| first
      | (intro _ _ _ _ _; exact rfl)
      | (intro _ _ _ _ _; dsimp only [Cx.blk]; done)
      | (intro _ _ _ _ _; dsimp only [Cx.blk]; exact rfl))
theorem inV_str (t : Str) (l : List Str) : inV (.str t) (l.map V.str) = decide (t ∈ l) := by
  unfold inV
  rw [List.any_map]
  induction l with
  | nil => rfl
  | cons a r ih =>
    rw [List.any_cons, ih]
    by_cases h : a = t
    · subst h
      simp [eqV]
    · simp [eqV, h, Ne.symm h]
theorem lk_perm {S S' : Tb} (n : (ks S).Nodup) (p : S'.Perm S) (a : Str) : lk S' a = lk S a := by
  have n' : (ks S').Nodup := (p.map Prod.fst).nodup_iff.mpr n
  cases h : lk S a with
  | none =>
    refine lk_none.mpr fun z => ?_
    exact lk_none.mp h ((p.map Prod.fst).mem_iff.mp z)
  | some x => exact lk_of n' (p.mem_iff.mpr (lk_mem h))
theorem wf_perm {S S' : Tb} (wf : WF S) (p : S'.Perm S) : WF S' :=
  ⟨(p.map Prod.fst).nodup_iff.mpr wf.nd, (p.map Prod.snd).nodup_iff.mpr wf.pd, fun r hr => wf.nm r (p.mem_iff.mp hr), fun r hr => wf.sz r (p.mem_iff.mp hr), by rw [p.length_eq]; exact wf.few⟩
theorem wf_sub {S : Tb} (wf : WF S) (b : Str × Str → Bool) : WF (S.filter b) :=
  ⟨wf.nd.sublist (List.filter_sublist.map _), wf.pd.sublist (List.filter_sublist.map _), fun r hr => wf.nm r (List.mem_filter.mp hr).1, fun r hr => wf.sz r (List.mem_filter.mp hr).1, Nat.le_trans (List.length_filter_le _ _) wf.few⟩
theorem dl_put_perm {S : Tb} {a x : Str} (n : (ks S).Nodup) (h : lk S a = some x) : (pu (dl S a) a x).Perm S := by
  have hn : a ∉ ks (dl S a) := by rw [ks_dl, List.mem_filter]; simp
  rw [pu_new hn]
  refine (List.perm_append_comm).trans ?_
  have hm := lk_mem h
  have e : ∀ S : Tb, (ks S).Nodup → (a, x) ∈ S → ((a, x) :: dl S a).Perm S := fun S => by
    induction S with
    | nil => intro _ h; cases h
    | cons r t ih =>
      intro n h
      have n' : r.1 ∉ ks t ∧ (ks t).Nodup := List.nodup_cons.mp n
      by_cases c : r.1 = a
      · have hr : r = (a, x) := by
          rcases List.mem_cons.mp h with h | h
          · exact h.symm
          · exact absurd (c ▸ ks_mem h) n'.1
        have ht : dl t a = t := by
          unfold dl
          refine List.filter_eq_self.mpr fun y hy => decide_eq_true fun z => n'.1 ?_
          rw [c, ← z]
          exact List.mem_map.mpr ⟨y, hy, rfl⟩
        have h1 : dl (r :: t) a = t := by
          unfold dl at ht ⊢
          rw [List.filter_cons, if_neg (by simp [c]), ht]
        rw [h1, hr]
      · have h2 : (a, x) ∈ t := (List.mem_cons.mp h).resolve_left fun z => c (by rw [← z])
        have h1 : dl (r :: t) a = r :: dl t a := by
          unfold dl
          rw [List.filter_cons]
          simp [c]
        rw [h1]
        exact (List.Perm.swap ..).trans ((ih n'.2 h2).cons r)
  exact e S n hm
section
variable {K : PySem.W.Frag} {σ : L2.St} {H : Hp} {te ta tb td ty : TE} {D : Ends} {tz : TS} {v : V}
theorem q_dpop1 {i : Nat} {d : Addr} {kvs : List (Key × V)} {k : Key} (hd : Ev td σ H (.ref d)) (hk : Ev ty σ H (kV k)) (ho : H d = some (.dK kvs)) (hv : valV kvs k = some v) (q : ∀ H1, Ex H H1 → tz D (σ.set i (some v)) (upd H1 d (.dK (dropK kvs k)))) : tSeq (tAsg (tDPop1 td ty) (gName i)) tz D σ H :=
  hd H (Ex.refl H) _ fun H1 e1 => ⟨d, rfl, .inl ⟨kvs, .inl (e1 _ _ ho)⟩, hk H1 e1 _ fun H2 e2 => ⟨kvs, k, v, (e1.trans e2) _ _ ho, rfl, hv, q H2 (e1.trans e2)⟩⟩
theorem ev_eqII {p r : Addr} {xs ys : List Int} (h1 : Ev ta σ H (.ref p)) (hp : SqL K H p (xs.map V.int)) (h2 : Ev tb σ H (.ref r)) (hr : SqL K H r (ys.map V.int)) : Ev (tOp (rEqP K) ta tb) σ H (.bl (decide (xs = ys))) := fun H1 e Q q =>
  h1 H1 e _ fun H2 e2 => h2 H2 (e.trans e2) _ fun H3 e3 => ⟨_, _, dpl_flat (ex_l ((e.trans e2).trans e3) hp) (flat_ints' xs), dpl_flat (ex_l ((e.trans e2).trans e3) hr) (flat_ints' ys), plain_lst _, plain_lst _, depth_lst _, by
    rw [PyData.eqv, eqvAll_ints]
    exact q H3 (e2.trans e3)⟩
theorem en_hurt {E : XK} {CD CS dy st d tm : Addr} {S S0 : Tb} {ts : Tm} {bh : Int → Bool} (ho : Ev ta σ H (.ref dy)) (da : DayAt CD CS dy st d tm H S ts) (wf : WF S) (wf0 : WF S0) (gr : Grow S S0) (hl : ts.length ≤ 1000) (nd : (ks ts).Nodup) (hr : Rooted S0 ts)
    (hb : ∀ r ∈ ts, bh r.1 = true ↔ ∃ a, Reach S0 r.2 a ∧ lk S a = none) : EvN (tMeth CD "hurt" (spHurt CD CS) [] E ta tNil) σ H (.tup (((sortI (ks ts)).filter bh).map V.int)) := fun H1 e Q q => by
  obtain ⟨dx, hy⟩ := da.day
  exact mt_use (vs := []) (ev_mono ho e) (e _ _ hy) rfl ea_nil fun H2 e2 => ⟨dy, st, d, tm, S, S0, ts, bh, rfl, da.ex (e.trans e2), wf, wf0, gr, hl, nd, hr, hb, fun p H3 hp e3 h3 => q p H3 (fresh_back e2 hp) (e2.trans e3) h3⟩
theorem en_lstTN {xs : List V} (h : EvN te σ H (.tup xs)) : EvN (tCB (rLst K) (tCons te tNil)) σ H (.lst xs) := fun H1 e Q q =>
  h H1 e _ fun p H2 _ e2 hp => ⟨p, xs, rfl, .inr (st_of hp), fun l hl => q l _ (fresh_back e2 hl) (e2.trans (Ex.new hl)) upd_same⟩
theorem ev_neT0 {xs : List Int} (h : EvN ta σ H (.tup (xs.map V.int))) : Ev (tOp (rNeP K) ta (tTup tNil)) σ H (.bl (!xs.isEmpty)) := fun H1 e Q q =>
  h H1 e _ fun p H2 _ e2 hp => ⟨sz_of (n := 0) (by decide), fun r hr => ⟨.tuple ((xs.map V.int).map datV), .tuple [], .tup (st_of (Ex.new hr _ _ hp)) (dpAll_of fun x hx => dp_flat _ (flat_ints' xs x hx)), .tup (st_of upd_same) .nil, by rw [PyData.plain]; exact plain_flats _, rfl, by rw [PyData.depth, depth_flat]; decide, by
    have z : PyData.eqv (.tuple ((xs.map V.int).map datV)) (.tuple []) = xs.isEmpty := by cases xs <;> simp [PyData.eqv, PyData.eqvAll]
    rw [z]
    exact q _ (e2.trans (Ex.new hr))⟩⟩
end
section
variable {P : Program} {w : World} {K : PySem.W.Frag} {mg : Str → Option Value} {base : Heap} {k : Nat}
def spLawHurt (CD CS : Addr) : Sp := fun vs H Q _ => ∃ (dc dy st d tm kd : Addr) (S : Tb) (ts : Tm) (kp : Kp), vs = [.ref dc, .ref dy, .ref kd] ∧ Dice dc H ∧ DayAt CD CS dy st d tm H S ts ∧ WF S ∧ Rd H kd (.dK (tKp kp)) ∧ kd ≠ d ∧ ks kp = ks ts ∧ (ks ts).Nodup ∧ ts.length ≤ 1000 ∧ Rooted S ts ∧
  ∀ S' H', S'.Perm S → Exs [dc, d] H H' → Dice dc H' → DayAt CD CS dy st d tm H' S' ts → Q (.bl true) H'
theorem law_hurt_ok (T : Md K mg base) (hk : 7 ≤ k) : CallOk P w K mg base k "_law_hurt" ["dice", "days", "kept"] (spLawHurt T.C_Days T.C_Store) := by
  obtain ⟨k, rfl⟩ : ∃ j, k = j + 1 := ⟨k - 1, by omega⟩
  refine T.d_law_hurt.ok (N := ["dice", "days", "kept", "names", "name", "need", "piece", "told_now", "time"]) sc_law_hurt (by rintro vs H Q E ⟨dc, dy, st, d, tm, kd, S, ts, kp, rfl, -⟩; rfl) ?_
  rintro f cdv A outer s H vs Q E hr ⟨dc, dy, st, d, tm, kd, S, ts, kp, rfl, hdc, da, wf, hkd, hkdd, hks, ndt, htl, hroot, q⟩
  refine ⟨_, (pss_cons (ps_if (PW.pt (pw_or (pt_cmpR (op_eqM (hu64_of hr)) (pv 2) pe_dnewK (nomark _)) (pw_or1 (pt_cmpR (op_neP (hu64_of hr)) (pe_m0 T.cl_Days (Days_hurt_ok T (by omega)) hr (pv 1)) (pe_tup pa_nil) (nomark _))))) (pss_one (ps_ret (pe_cmpR (op_eqM (hu64_of hr)) (pv 2) pe_dnewK (nomark _)))) pss_nil)
    (pss_cons (ps_set (i := 3) sc_law_hurt.nd rfl (Or.inl rfl) (pe_m0 T.cl_Store (Store_names_ok T (by omega)) hr (pe_fld (pv 1) rfl)))
    (pss_cons (ps_set (i := 4) sc_law_hurt.nd rfl (Or.inr rfl) (pe_ix ix_tup (pv 3) (pe_c (law_roll_ok T (by omega)) hr (by rfl) (pa_cons (pv 0) (pa_cons (b_len T.b (pa_cons (pv 3) pa_nil)) pa_nil))) (fun _ _ => rfl)))
    (pss_cons (ps_setLcF (own := [("time", 8)]) (i := 5) rfl sc_law_hurt.nd rfl rfl (sw_true rfl rfl rfl (by decide +kernel)) (pi_list (b_sortedD T.b (hu64_of hr) (pa_cons (pv 2) pa_nil))) (blkOk_by (own := [("time", 8)]) (N := ["dice", "days", "kept", "names", "name", "need", "piece", "told_now", "time"]) (sc := defScope st_law_hurt) (by decide +kernel)) (fun _ _ _ _ _ => (by exact (pg_name (i := 8) sc_law_hurt.nd rfl (Or.inl rfl)))) (fun _ _ _ _ _ => (by exact (pts_one (pt_cmpR op_in_seq (pv 4) (pe_c (needs_ok T (by omega)) hr (by rfl) (pa_cons (pe_fld (pv 1) rfl) (pa_cons (pe_dget (hu_of hr) (pe_fld (pv 1) rfl) (pv 8) (fun _ _ => rfl)) pa_nil))) (by rfl))))) (fun _ _ _ _ _ => (by exact (pv 8))) (by walk_at "lcf") (by walk_at "lcf") (by walk_at "lcf"))
    (pss_cons (ps_set (i := 6) sc_law_hurt.nd rfl (Or.inl rfl) (pe_dpop1 (pe_fld (pe_fld (pv 1) rfl) rfl) (pv 4) ⟨by rfl, by rfl, by rfl, by rfl⟩))
    (pss_cons (ps_set (i := 7) sc_law_hurt.nd rfl (Or.inl rfl) (b_listT T.b (pa_cons (pe_m0 T.cl_Days (Days_hurt_ok T (by omega)) hr (pv 1)) pa_nil)))
    (pss_cons (ps_dput (hu_of hr) (pe_fld (pe_fld (pv 1) rfl) rfl) (pv 4) (pv 6) rfl)
    (pss_one (ps_ret (pe_cmpR (op_eqP (hu64_of hr)) (pv 7) (pv 5) (nomark _))))))))))), ?_⟩
  obtain ⟨dx, hy⟩ := da.day
  obtain ⟨⟨dx2, hs⟩, hd⟩ := da.sto
  have htm := da.tim
  have hc := T.cl_Days
  have hc2 := T.cl_Store
  have hn1 := T.na_Days_store
  have hn2 := T.na_Days_times
  have hyd : dy ≠ d := fun z => by rw [z, hd] at hy; cases hy
  have hsd : st ≠ d := fun z => by rw [z, hd] at hs; cases hs
  have inS : ∀ r ∈ ts, ∀ a, Reach S r.2 a → ∃ x, lk S a = some x := fun r hr a ha => by
    obtain ⟨n', h1, _⟩ := hroot r hr
    exact reach_lk ha h1
  by_cases hk0 : kp = []
  · subst hk0
    refine q_when (b := true) (et_or (a := true) (b := true) (et_test (ev_eqNilD (ev_var rfl) hkd)) fun z => (by cases z)) (fun _ H2 e2 => ?_) nofun
    refine s_ret (v := .bl true) (ev_eqNilD (ev_var rfl) (ex_rd e2 hkd)) fun H3 e3 => q S H3 (List.Perm.refl _) (exs_of (e2.trans e3)) (hdc.ex (e2.trans e3)) (da.ex (e2.trans e3))
  refine q_when (b := false) (et_or (a := false) (b := false) (et_is (et_test (ev_eqNilD (ev_var rfl) hkd)) ?_) fun _ => et_is (et_test (ev_neT0 (en_hurt (bh := fun _ => false) (ev_var rfl) da wf wf (Grow.refl _) htl ndt hroot ?_))) ?_) nofun fun _ H2 e2 => ?_
  · cases kp with
    | nil => exact absurd rfl hk0
    | cons => rfl
  · intro r hr
    constructor
    · intro z; cases z
    · rintro ⟨a, ha, hn⟩
      obtain ⟨x, hx⟩ := inS r hr a ha
      rw [hx] at hn
      cases hn
  · rw [List.filter_eq_nil_iff.mpr (by simp)]; rfl
  have hd2 := e2 _ _ hd
  refine q_asgN (en_mt mono_names (ev_fld (ev_var rfl) (e2 _ _ hy) hc hn1 rfl) (e2 _ _ hs) rfl ea_nil ⟨st, d, S, rfl, da.sto.ex e2, rfl⟩) fun N H3 hN e3 h3 => ?_
  have e23 := e2.trans e3
  have hNd : N ≠ dc := dice_ne_new (hdc.ex e2) hN
  have hts : ts ≠ [] := fun z => hk0 (by
    have : (ks kp).length = 0 := by rw [hks, z]; rfl
    unfold ks at this
    rw [List.length_map] at this
    exact List.eq_nil_of_length_eq_zero this)
  have hSl : 0 < (sortS (ks S)).length := by
    cases hts' : ts with
    | nil => exact absurd hts' hts
    | cons r u =>
      obtain ⟨x, hx⟩ := inS r (by rw [hts']; exact List.mem_cons_self ..) r.2 .refl
      exact List.length_pos_of_mem (mem_sortS.mpr (ks_mem (lk_mem hx)))
  have hSz : (sortS (ks S)).length ≤ 90000 := by rw [(sortS_perm _).length_eq]; unfold ks; rw [List.length_map]; exact wf.few
  refine ⟨.ref N, rfl, ?_⟩
  refine roll_use (dc := dc) (n := (((sortS (ks S)).map V.str).length : Int)) (ev_var rfl) (ev_cb (ea_cons (ev_var rfl) ea_nil) (rc_len (.tup (st_of h3)))) (hdc.ex e23) (by rw [List.length_map]; omega) (by rw [List.length_map]; omega) fun rr H4 g0 g1 m4 => ?_
  obtain ⟨v, hv, hr4⟩ := atI_in (xs := (sortS (ks S)).map V.str) g0 g1
  obtain ⟨a, ha, rfl⟩ := List.mem_map.mp hv
  refine ⟨N, _, rr, _, rfl, rfl, st_of (m4.at h3 hNd), hr4, ?_⟩
  obtain ⟨x, hx⟩ := mem_ks (mem_sortS.mp ha)
  have hdc' : ∀ {p : Addr} {o : HO}, H p = some o → (∀ u v w, o ≠ .lst [u, v, w]) → H4 p = some o := fun hp h => m4.at (e23 _ _ hp) (dice_ne hdc hp h)
  have hy4 := hdc' hy fun _ _ _ => by simp
  have hs4 := hdc' hs fun _ _ _ => by simp
  have hd4 := hdc' hd fun _ _ _ => by simp
  have htm4 := hdc' htm fun _ _ _ => by simp
  have hkd4 : Rd H4 kd (.dK (tKp kp)) := by
    rcases hkd with g | ⟨o, g⟩
    · exact .inl (hdc' g fun _ _ _ => by simp)
    · exact .inr ⟨o, hdc' g fun _ _ _ => by simp⟩
  have da4 : DayAt T.C_Days T.C_Store dy st d tm H4 S ts := ⟨⟨dx, hy4⟩, ⟨⟨dx2, hs4⟩, hd4⟩, htm4, da.ne⟩
  have ex4 : Exs [dc] H H4 := (exs_of e23).trans m4.ex
  generalize hbq : (fun t : Int => @decide (∃ r ∈ ts, r.1 = t ∧ Reach S r.2 a) (Classical.propDecidable _)) = bq
  have bqt : ∀ r ∈ ts, (bq r.1 = true ↔ Reach S r.2 a) := fun r hr => by
    rw [← hbq]
    constructor
    · intro h
      obtain ⟨r', h1, h2, h3⟩ := @of_decide_eq_true _ (Classical.propDecidable _) h
      have e1 := lk_of ndt (k := r.1) (v := r.2) hr
      have e2 := lk_of ndt (k := r.1) (v := r'.2) (by rw [← h2]; exact h1)
      rw [e1] at e2
      rw [Option.some.inj e2]
      exact h3
    · intro h
      exact @decide_eq_true _ (Classical.propDecidable _) ⟨r, hr, rfl, h⟩
  refine q_asgN (o := .lst (((sortI (ks kp)).filter bq).map V.int)) (en_lc (α := Int) (lc_N (sortI (ks kp)) V.int _ _ (en_srtDI (ev_var rfl) hkd4 (en_keys kp)) (by rw [(sortI_perm _).length_eq, hks]; unfold ks; rw [List.length_map]; omega) (fun _ => rfl) m_val ?_ fun _ _ _ _ _ => ev_x (ev_var rfl))) fun Z H5 hZ e5 h5 => ?_
  · intro t H5 ht e5
    have ht2 : t ∈ ks ts := by rw [← hks]; exact mem_sortI.mp ht
    obtain ⟨root, hroot2⟩ := mem_ks ht2
    have hrm := lk_mem hroot2
    obtain ⟨n, hdp, hrl⟩ := hroot _ hrm
    refine et_test (fun H6 e6 Q' q' => ?_)
    have e56 := e5.trans e6
    refine ⟨.str a, rfl, ?_⟩
    refine cl_use (vs := [.ref st, .str root]) (ea_cons (ev_fld (ev_var rfl) (e56 _ _ hy4) hc hn1 rfl) (ea_cons (ev_dget (k := .inl t) (ev_fld (ev_var rfl) (e56 _ _ hy4) hc hn2 rfl) (ev_var rfl) (rd_of (e56 _ _ htm4)) (by rw [en_look inl_inj', hroot2]; rfl)) ea_nil)) fun H7 e7 => ⟨st, d, S, S, root, n, rfl, ⟨⟨dx2, e7 _ _ (e56 _ _ hs4)⟩, e7 _ _ (e56 _ _ hd4)⟩, wf, wf, Grow.refl _, hdp, hrl, fun ns ndn hm _ p H8 hp e8 h8 => ⟨p, _, rfl, .inr (st_of h8), rfl, ?_, ?_⟩, fun ⟨b, hb, hn⟩ => ?_⟩
    · rw [List.all_eq_true]
      intro y hy
      obtain ⟨z, _, rfl⟩ := List.mem_map.mp hy
      rfl
    · have z := q' H8 (e7.trans e8)
      rw [inV_str]
      have hb : bq t = decide (a ∈ sortS ns) := by
        have h1 := bqt _ hrm
        by_cases c : a ∈ sortS ns
        · rw [decide_eq_true c]
          exact h1.mpr ((hm a).mp (mem_sortS.mp c))
        · rw [decide_eq_false c]
          cases hz : bq t with
          | false => rfl
          | true => exact absurd (mem_sortS.mpr ((hm a).mpr (h1.mp hz))) c
      rw [hb] at z
      exact z
    · obtain ⟨y, hy⟩ := inS _ hrm b hb
      rw [hy] at hn
      cases hn
  have hy5 := e5 _ _ hy4
  have hs5 := e5 _ _ hs4
  have hd5 := e5 _ _ hd4
  refine q_dpop1 (d := d) (kvs := tD S) (k := .inr a) (v := .str x) (ev_fld (ev_fld (ev_var rfl) hy5 hc hn1 rfl) hs5 hc2 T.na_Store_pieces rfl) (ev_var rfl) hd5 (by rw [en_look inr_inj', hx]; rfl) fun H6 e6 => ?_
  rw [en_drop inr_inj']
  have hZd : Z ≠ d := fun z => by rw [z, hd4] at hZ; cases hZ
  have e46 := e5.trans e6
  generalize hH7 : L2.upd H6 d (.dK (en Sum.inr V.str (dl S a))) = H7
  have hd7 : H7 d = some (.dK (tD (dl S a))) := by rw [← hH7]; exact upd_same
  have ex67 : Exs [d] H6 H7 := by rw [← hH7]; exact exs_upd (Exs.refl _ _) (by simp)
  have hy7 := ex67 _ _ (by simpa using hyd) (e46 _ _ hy4)
  have hs7 := ex67 _ _ (by simpa using hsd) (e46 _ _ hs4)
  have htm7 := ex67 _ _ (by simpa using da.ne) (e46 _ _ htm4)
  have da7 : DayAt T.C_Days T.C_Store dy st d tm H7 (dl S a) ts := ⟨⟨dx, hy7⟩, ⟨⟨dx2, hs7⟩, hd7⟩, htm7, da.ne⟩
  have hbq7 : ∀ r ∈ ts, bq r.1 = true ↔ ∃ b, Reach S r.2 b ∧ lk (dl S a) b = none := fun r hr => by
    rw [bqt r hr]
    constructor
    · intro h; exact ⟨a, h, by rw [lk_dl, if_pos rfl]⟩
    · rintro ⟨b, hb, hn⟩
      rw [lk_dl] at hn
      by_cases z : b = a
      · rw [← z]; exact hb
      · rw [if_neg z] at hn
        obtain ⟨y, hy⟩ := inS r hr b hb
        rw [hy] at hn
        cases hn
  have gr7 : Grow (dl S a) S := fun n y h => by
    rw [lk_dl] at h
    split at h
    · cases h
    · exact h
  refine q_asgN (en_lstTN (en_hurt (ev_var rfl) da7 (wf_sub wf _) wf gr7 htl ndt hroot hbq7)) fun W H8 hW e8 h8 => ?_
  have hy8 := e8 _ _ hy7
  have hs8 := e8 _ _ hs7
  have hWd : W ≠ d := fun z => by rw [z, hd7] at hW; cases hW
  refine q_dput (d := d) (kvs := tD (dl S a)) (k := .inr a) (v := .str x) (ev_var rfl) (ev_fld (ev_fld (ev_var rfl) hy8 hc hn1 rfl) hs8 hc2 T.na_Store_pieces rfl) (ev_var rfl) (e8 _ _ hd7) ?_ fun H9 e9 => ?_
  · rw [en_len]
    have z : (dl S a).length ≤ S.length := List.length_filter_le _ _
    have := wf.few
    exact sz_lt (by omega)
  rw [en_put inr_inj']
  have hperm := dl_put_perm wf.nd hx
  generalize hS' : pu (dl S a) a x = S' at hperm
  generalize hHA : L2.upd H9 d (.dK (en Sum.inr V.str S')) = HA
  have hdA : HA d = some (.dK (tD S')) := by rw [← hHA]; exact upd_same
  have exA : Exs [d] H9 HA := by rw [← hHA]; exact exs_upd (Exs.refl _ _) (by simp)
  have hWA := exA _ _ (by simpa using hWd) (e9 _ _ h8)
  have hZA := exA _ _ (by simpa using hZd) (e9 _ _ (e8 _ _ (ex67 _ _ (by simpa using hZd) (e6 _ _ h5))))
  have exT : Exs [d] H4 HA := (((exs_of e46).trans ex67).then (e8.trans e9)).trans exA
  have hyA := exT _ _ (by simpa using hyd) hy4
  have hsA := exT _ _ (by simpa using hsd) hs4
  have htmA := exT _ _ (by simpa using da.ne) htm4
  have hdcd : dc ≠ d := fun z => by
    obtain ⟨u, v, w', g⟩ := hdc
    rw [z, hd] at g
    cases g
  obtain ⟨u1, u2, u3, hdc4⟩ := m4.di
  have hdcA := exT _ _ (by simpa using hdcd) hdc4
  refine s_ret (v := .bl true) (ev_is (ev_eqII (ev_var rfl) (sq_of hWA) (ev_var rfl) (sq_of hZA)) (by rw [hks]; simp)) fun HB eB => ?_
  refine q S' HB hperm ((ex4.mono (by simp)).trans ((exT.mono (by simp)).then eB)) ⟨u1, u2, u3, eB _ _ hdcA⟩ ⟨⟨dx, eB _ _ hyA⟩, ⟨⟨dx2, eB _ _ hsA⟩, eB _ _ hdA⟩, eB _ _ htmA, da.ne⟩
end
end Kw


set_option Elab.async false
set_option linter.all false
set_option maxRecDepth 100000
set_option maxHeartbeats 4000000
/-! Law10: the law's asking of each day. -/
namespace Kw
open PySem PySem.Spec PyProof.Rows L2 Evl
local macro_rules
  | `(tactic| walk_at "hp") => `(tactic| first
      | exact prp (by assumption)
      | exact rfl
      | exact upd_same
      | ((with_reducible apply sq_of); first | assumption | exact upd_same)
      | ((with_reducible apply st_of); first | assumption | exact upd_same)
      | ((with_reducible apply rd_of); first | assumption | exact upd_same)
      | ((with_reducible apply ex_l); assumption; walk_at "hp")
      | ((with_reducible apply ex_t); assumption; walk_at "hp")
      | ((with_reducible apply ex_rd); assumption; walk_at "hp")
      | ((with_reducible apply ex_at); assumption; walk_at "hp")
      | ((with_reducible apply Or.inl); walk_at "hp")
      | ((with_reducible apply Or.inr); walk_at "hp")
      | ((with_reducible apply LenD.lst); walk_at "hp")
      | ((with_reducible apply LenD.tup); walk_at "hp")
      | ((with_reducible apply LenD.dic); walk_at "hp")
      | ((with_reducible apply LenD.str); walk_at "hp")
      | ((with_reducible apply mulR); decide)
      | ((with_reducible apply mulL); decide)
      | decide
      | omega)
local macro_rules
  | `(tactic| walk_at "ev") => `(tactic| ((fail_if_success (with_reducible apply ev_bad)); (fail_if_success (with_reducible apply et_bad)); (fail_if_success (with_reducible apply ea_bad)); (fail_if_success (with_reducible apply en_bad)); first
      | ((with_reducible apply ev_var); exact rfl)
      | (with_reducible exact ev_c)
      | (with_reducible exact ea_nil)
      | (with_reducible exact eo_none)
      | ((with_reducible apply eo_some) <;> try walk_at "ev")
      | ((with_reducible apply ea_cons) <;> try walk_at "ev")
      | ((with_reducible apply ev_inTup) <;> try walk_at "ev")
      | ((with_reducible apply ev_niTup) <;> try walk_at "ev")
      | ((with_reducible apply ev_ixP) <;> try walk_at "ev")
      | (with_reducible exact rv_isN)
      | (with_reducible exact rv_notN)
      | ((with_reducible apply ev_op) <;> try walk_at "ev")
      | (with_reducible exact rv_I0)
      | ((with_reducible apply rv_I) <;> try walk_at "hp")
      | ((with_reducible apply rv_eq); exact rfl)
      | ((with_reducible apply rv_ne); exact rfl)
      | ((with_reducible apply rv_addS) <;> try walk_at "hp")
      | ((with_reducible apply rv_ixL); walk_at "hp"; walk_at "hp")
      | ((with_reducible apply rv_ixT); walk_at "hp"; walk_at "hp")
      | ((with_reducible apply ev_cb) <;> try walk_at "ev")
      | ((with_reducible apply rc_len); walk_at "hp")
      | (with_reducible exact rc_ord)
      | ((with_reducible apply rc_str) <;> try walk_at "hp")
      | (with_reducible exact rc_int)
      | (with_reducible exact rc_intB)
      | (with_reducible exact rc_abs)
      | (with_reducible exact rc_max2)
      | (with_reducible exact rc_min2)
      | ((with_reducible apply ev_joinN) <;> try walk_at "ev")
      | ((with_reducible apply ev_m1) <;> try walk_at "ev")
      | ((with_reducible apply rm_strip) <;> try walk_at "hp")
      | (with_reducible exact rm_starts)
      | ((with_reducible apply rm_join) <;> try walk_at "hp")
      | ((with_reducible apply ev_slS) <;> try walk_at "ev")
      | ((with_reducible apply ev_dget) <;> try walk_at "ev")
      | ((with_reducible apply ev_din) <;> try walk_at "ev")
      | ((with_reducible apply ev_dnotin) <;> try walk_at "ev")
      | ((with_reducible apply ev_fld) <;> try walk_at "ev")
      | ((with_reducible apply et_test) <;> try walk_at "ev")
      | ((with_reducible apply et_B) <;> try walk_at "ev")
      | ((with_reducible apply et_and) <;> try walk_at "ev")
      | ((with_reducible apply et_or) <;> try walk_at "ev")
      | ((with_reducible apply et_not) <;> try walk_at "ev")
      | (with_reducible exact en_dnew)
      | (with_reducible exact et_yes)
      | ((with_reducible apply ex_tup) <;> try walk_at "ev")
      | ((with_reducible apply en_slL) <;> try walk_at "ev")
      | ((with_reducible apply en_split) <;> try walk_at "ev")
      | ((with_reducible apply en_part) <;> try walk_at "ev")
      | walk_at "hp"
      | ((with_reducible refine fun hb => ?_); try walk_at "ev")))
local macro_rules
  | `(tactic| walk_at "lcf") => `(tactic| first
      | (intro _ _ _ _ _; exact rfl)
      | (intro _ _ _ _ _; dsimp only [Cx.blk]; done)
      | (intro _ _ _ _ _; dsimp only [Cx.blk]; exact rfl))
section
variable {X : Cx} {K : PySem.W.Frag} {mg : Str → Option Value} {base : Heap}
theorem pe_told {k : Nat} {params : Arguments} {body : Expr} {scope : Scope} {t : XK → TE} {p lpos pos : Pos} (T : Md X.K X.mg X.base) (hg : Gl X "_law_told") (hcode : X.env.code = .ref T.q_law_given) (hr : Room (k + 2) X.A) (L : LamX.LamS X.env.scope scope) (hdef : defaultsOf params X.env = ([], []))
    (hbind : ∀ (q : Str) (cl : List (Str × Addr)) (pm cv ctv : Value), bindArgs (PySem.W.kla_fn "<lambda>" q params body scope cl pm cv ctv) ⟨[], []⟩ = pure [])
    (hbody : ∀ (A : Around) (outer : List Env) (s : Shared) (H : Hp) (E : XK) (f c' : Addr), Room k (A.deeper (LamX.lamEnv X scope s.heap.objs.size f c')) → PE (LamX.lamCx X A outer s H E scope f c') body (t E)) :
    PE X (.Call (.Name "_law_told" p) [.Lambda params body scope lpos] [] pos) (LamX.tLam [(T.tab_law_given, X.env.qual ++ "<lambda>")] (TTwo X.K (.ref T.Lost) (.ref T.NoSuch)) t) := by
  obtain ⟨g, fd, F, hm, hb⟩ := T.d_law_told
  obtain ⟨⟨oc, od, kV, doc, pm, an, cdv, ct, osl, rfl, lk, hcd⟩, kp⟩ := F
  refine LamX.pe_lamcall (k := k) hg hm kp lk hcd hb sc_law_told rfl (Or.inl (by decide +kernel)) ?_ T.tb_law_given hcode (by simp) (by simp) hr L hdef hbind hbody
  exact two_gives (X := X) (c1 := .ref T.Lost) (c2 := .ref T.NoSuch) (by decide +kernel) (by decide +kernel) T.g_Lost T.g_NoSuch (by decide) (by decide) (fun _ => rfl)
end
/-! ### dicts of texts, equal -/
theorem sameT_of {F G : Tb} (hl : F.length = G.length) (h : ∀ r ∈ F, lk G r.1 = some r.2) : sameT (tD F) (tD G) = true := by
  unfold sameT
  rw [en_len, en_len, hl, beq_self_eq_true, Bool.true_and, List.all_eq_true]
  intro p hp
  obtain ⟨r, hr, rfl⟩ := List.mem_map.mp hp
  rw [en_look inr_inj', h r hr]
  simp
theorem sameT_can {F G : Tb} (nF : (ks F).Nodup) (nG : (ks G).Nodup) (h : sameT (tD F) (tD G) = true) : can F = can G := by
  unfold sameT at h
  rw [en_len, en_len, Bool.and_eq_true, beq_iff_eq, List.all_eq_true] at h
  have hr : ∀ r ∈ F, lk G r.1 = some r.2 := fun r hr => by
    have z := of_decide_eq_true (h.2 _ (List.mem_map.mpr ⟨r, hr, rfl⟩))
    rw [en_look inr_inj'] at z
    cases e : lk G r.1 with
    | none => rw [e] at z; cases z
    | some x => rw [e] at z; cases z; rfl
  have hk : (ks F).Perm (ks G) := by
    have sub : ∀ k ∈ ks F, k ∈ ks G := fun k hk => by
      obtain ⟨r, hr', rfl⟩ := List.mem_map.mp hk
      exact ks_mem (lk_mem (hr r hr'))
    refine (List.perm_ext_iff_of_nodup nF nG).mpr fun k => ⟨sub k, fun hk => ?_⟩
    by_cases c : k ∈ ks F
    · exact c
    · have z := nd_sub_len (ys := (ks G).erase k) nF fun x hx => (List.mem_erase_of_ne (fun e : x = k => c (by rw [← e]; exact hx))).mpr (sub x hx)
      rw [List.length_erase_of_mem hk] at z
      have p := List.length_pos_of_mem hk
      unfold ks at z p
      rw [List.length_map, List.length_map] at z
      rw [List.length_map] at p
      omega
  unfold can
  rw [sortS_eq hk]
  refine List.map_congr_left fun k hk' => ?_
  have hkF : k ∈ ks F := hk.mem_iff.mpr (mem_sortS.mp hk')
  obtain ⟨x, hx⟩ := mem_ks hkF
  have z := hr _ (lk_mem hx)
  rw [hx, z]
theorem can_len_lk {F : Tb} (n : (ks F).Nodup) : sameT (tD (can F)) (tD F) = true := sameT_of (len_can F) fun r hr => by
  have z := lk_of (nd_can n) hr
  rw [lk_can n] at z
  exact z
theorem can_can {F : Tb} (n : (ks F).Nodup) : can (can F) = can F := by
  unfold can
  have e : ks ((sortS (ks F)).map fun p => (p, (lk F p).getD "")) = sortS (ks F) := ks_can F
  rw [e, sortS_of_sorted (sortS_sorted _)]
  refine List.map_congr_left fun k hk => ?_
  have z := lk_can n k
  unfold can at z
  rw [z]
/-! ### all but some and the tables stays -/
def Exn (ds : List Addr) (H H' : Hp) : Prop := ∀ a o, a ∉ ds → H a = some o → (∀ ps, o ≠ .tbl ps) → H' a = some o
theorem exn_of {ds : List Addr} {H H' : Hp} (e : Exs ds H H') : Exn ds H H' := fun a o n h _ => e a o n h
theorem Exn.trans {ds : List Addr} {H H1 H' : Hp} (a : Exn ds H H1) (b : Exn ds H1 H') : Exn ds H H' := fun x o n h t => b x o n (a x o n h t) t
theorem exn_ext {ds : List Addr} {H H' : Hp} (e : LamX.ExtN H H') : Exn ds H H' := fun a o _ h t => e a o h t
theorem tab_mv {dc P1 : Addr} {q : Str} {H H' : Hp} (d : Dice dc H) (m : Exs [dc] H H') (t : LamX.TabS H P1 q) : LamX.TabS H' P1 q := by
  obtain ⟨ps, h1, h2, h3⟩ := t
  obtain ⟨x, y, z, hd⟩ := d
  have n1 : P1 ∉ [dc] := fun h => by
    rw [List.mem_singleton.mp h, hd] at h1
    cases h1
  refine ⟨ps, m _ _ n1 h1, h2, fun pos cv hc => ?_⟩
  obtain ⟨c, e1, e2⟩ := h3 pos cv hc
  have n2 : c ∉ [dc] := fun h => by
    rw [List.mem_singleton.mp h, hd] at e2
    cases e2
  exact ⟨c, e1, m _ _ n2 e2⟩
structure Mt (dc P1 : Addr) (q : Str) (H H' : Hp) : Prop where
  ex : Exn [dc] H H'
  di : Dice dc H'
  tb : LamX.TabS H' P1 q
section
variable {dc P1 : Addr} {q : Str} {H H1 H' : Hp}
theorem mt_of (d : Dice dc H) (t : LamX.TabS H P1 q) (e : Ex H H') : Mt dc P1 q H H' := ⟨exn_of (exs_of e), d.ex e, t.ext e⟩
theorem Mt.trans (a : Mt dc P1 q H H1) (b : Mt dc P1 q H1 H') : Mt dc P1 q H H' := ⟨a.ex.trans b.ex, b.di, b.tb⟩
theorem Mt.then (a : Mt dc P1 q H H1) (b : Ex H1 H') : Mt dc P1 q H H' := a.trans (mt_of a.di a.tb b)
theorem Mt.mv (a : Mt dc P1 q H H1) (b : Mv dc H1 H') : Mt dc P1 q H H' := a.trans ⟨exn_of b.ex, b.di, tab_mv a.di b.ex a.tb⟩
theorem Mt.at (a : Mt dc P1 q H H1) {p : Addr} {o : HO} (hp : H p = some o) (hd : p ≠ dc) (ht : ∀ ps, o ≠ .tbl ps) : H1 p = some o := a.ex _ _ (by simpa using hd) hp ht
end
section
variable {K : PySem.W.Frag} {σ : L2.St} {H : Hp} {te ta tb : TE}
theorem ev_neIIN {xs ys : List Int} (h1 : EvN ta σ H (.lst (xs.map V.int))) (h2 : EvN tb σ H (.lst (ys.map V.int))) : Ev (tOp (rNeP K) ta tb) σ H (.bl (!decide (xs = ys))) := fun H1 e Q q =>
  h1 H1 e _ fun p H2 _ e2 hp => h2 H2 (e.trans e2) _ fun r H3 _ e3 hr => ⟨_, _, dpl_flat (ex_l e3 (sq_of hp)) (flat_ints' xs), dpl_flat (sq_of hr) (flat_ints' ys), plain_lst _, plain_lst _, depth_lst _, by
    rw [PyData.eqv, eqvAll_ints]
    exact q H3 (e2.trans e3)⟩
theorem en_catN {xs zs : List V} (h1 : EvN ta σ H (.lst xs)) (h2 : EvN tb σ H (.lst zs)) (hz : xs.length + zs.length ≤ 100000) : EvN (tOp rCat ta tb) σ H (.lst (xs ++ zs)) := fun H1 e Q q =>
  h1 H1 e _ fun l H2 _ e2 hl => h2 H2 (e.trans e2) _ fun b H3 _ e3 hb => ⟨l, b, xs, zs, rfl, rfl, e3 _ _ hl, hb, sz_of hz, fun p hp => q p _ (fresh_back (e2.trans e3) hp) ((e2.trans e3).trans (Ex.new hp)) upd_same⟩
theorem ex_maxN {ns : List Int} (h : EvN te σ H (.lst (ns.map V.int))) (hne : 0 < ns.length) : EvX (tCB (rMax K) (tCons te tNil)) σ H (fun v _ => ∃ m, v = .int m ∧ m ∈ ns ∧ ∀ a ∈ ns, a ≤ m) := fun H1 e Q q =>
  h H1 e _ fun p H2 _ e2 hp => ⟨p, ns, rfl, sq_of hp, hne, fun m h1 h2 => q _ H2 e2 ⟨m, rfl, h1, h2⟩⟩
end
theorem hits_tD (F G : Tb) : ∀ p ∈ tD F, (∃ z, p.2 = V.str z) ∧ ∀ y, valV (tD G) p.1 = some y → ∃ z, y = V.str z := fun p hp => by
  obtain ⟨r, hr, rfl⟩ := List.mem_map.mp hp
  refine ⟨⟨_, rfl⟩, fun y hy => ?_⟩
  rw [en_look inr_inj'] at hy
  cases e : lk G r.1 with
  | none => rw [e] at hy; cases hy
  | some x => rw [e] at hy; cases hy; exact ⟨_, rfl⟩
theorem last_is {l : List Int} (hs : l.Pairwise fun a b => a ≤ b) {m : Int} (hm : m ∈ l) (h : ∀ a ∈ l, a ≤ m) : l[l.length - 1]? = some m := by
  have hp := List.length_pos_of_mem hm
  rw [List.getElem?_eq_getElem (by omega)]
  congr 1
  have h1 := h _ (List.getElem_mem (l := l) (n := l.length - 1) (by omega))
  obtain ⟨j, hj, rfl⟩ := List.getElem_of_mem hm
  by_cases c : j = l.length - 1
  · subst c; rfl
  · have z := List.pairwise_iff_getElem.mp hs j (l.length - 1) hj (by omega) (by omega)
    omega
section
variable {P : Program} {w : World} {K : PySem.W.Frag} {mg : Str → Option Value} {base : Heap} {k : Nat}
abbrev LQ : Str := "_law_given" ++ ".<locals>." ++ "<lambda>"
def spLawGiven (CD CS P0 P1 : Addr) (q : Str) : Sp := fun vs H Q _ => ∃ (dc dy st d tm kd : Addr) (S : Tb) (ts : Tm) (kp : Kp), vs = [.ref dc, .ref dy, .ref kd] ∧ Dice dc H ∧ DayAt CD CS dy st d tm H S ts ∧ WF S ∧ H kd = some (.dK (tKp kp)) ∧ (d ≠ kd ∧ tm ≠ kd) ∧ (∀ r ∈ kp, r.2.1 ≠ kd) ∧ (∀ r ∈ kp, H r.2.1 = some (.dK (tD r.2.2)) ∧ LTb r.2.2 ∧ FolOk 4 (can r.2.2) ∧ ∀ nm, lk ts r.1 = some nm → FolAt 4 S (can r.2.2) nm) ∧
  ks kp = ks ts ∧ (ks ts).Nodup ∧ ts.length ≤ 1000 ∧ (∀ t ∈ ks ts, 0 ≤ t ∧ t ≤ 1000000) ∧ Tab P0 H ∧ LamX.TabS H P1 q ∧ ∀ H', Mt dc P1 q H H' → Q (.bl true) H'
theorem law_given_ok (T : Md K mg base) (hk : 14 ≤ k) : CallOk P w K mg base k "_law_given" ["dice", "days", "kept"] (spLawGiven T.C_Days T.C_Store T.P0 T.tab_law_given LQ) := by
  obtain ⟨k, rfl⟩ : ∃ j, k = j + 1 := ⟨k - 1, by omega⟩
  obtain ⟨k, rfl⟩ : ∃ j, k = j + 2 := ⟨k - 2, by omega⟩
  refine T.d_law_given.ok (N := ["dice", "days", "kept", "high", "turn", "time", "ahead", "one"]) sc_law_given (by rintro vs H Q E ⟨dc, dy, st, d, tm, kd, S, ts, kp, rfl, -⟩; rfl) ?_
  rintro f A outer s H vs Q E hr ⟨dc, dy, st, d, tm, kd, S, ts, kp, rfl, hdc, da, wf, hkd, hkne, hrk, hkp, hks, ndt, htl, ht0, tab, tbs, q⟩
  refine ⟨_, (pss_cons (ps_if (PW.pt (pw_or (pt_cmpR (op_neP (hu64_of hr)) (b_sortedD T.b (hu64_of hr) (pa_cons (pe_fld (pv 1) rfl) pa_nil)) (b_sortedD T.b (hu64_of hr) (pa_cons (pv 2) pa_nil)) (nomark _)) (pw_or1 (pt_cmpR (op_neP (hu64_of hr)) (pe_un (pe_lcF (own := [("time", 5)]) rfl sc_law_given.nd (pi_keys (pe_lkA (pv 2))) (blkOk_by (own := [("time", 5)]) (N := ["dice", "days", "kept", "high", "turn", "time", "ahead", "one"]) (sc := defScope st_law_given) (by decide +kernel)) (fun _ _ _ _ _ => (by exact (pg_name (i := 5) sc_law_given.nd rfl (Or.inl rfl)))) (fun _ _ _ _ _ => (by exact (pts_one (pt_cmpR (op_neM (hu64_of hr)) (pe_m T.cl_Days (Days_give_ok T (by omega)) hr (pv 1) (pa_cons (pv 5) pa_nil)) (pe_dget (hu_of hr) (pv 2) (pv 5) (fun _ _ => rfl)) (nomark _))))) (fun _ _ _ _ _ => (by exact (pv 5))) (by walk_at "lcf") (by walk_at "lcf") (by walk_at "lcf"))) (pe_lst pa_nil) (nomark _))))) (pss_one (ps_ret pe_bl)) pss_nil)
    (pss_cons (ps_set (i := 3) sc_law_given.nd rfl (Or.inl rfl) (pe_op op_add (b_maxL T.b (pa_cons (pe_op op_cat (b_listD T.b (pa_cons (pv 2) pa_nil)) (pe_lst (pa_cons pe_int pa_nil))) pa_nil)) pe_int))
    (pss_cons (ps_for PassesOwn.never rfl (pi_range1 rfl T.b.range (pa_cons pe_int pa_nil)) (pg_name (i := 4) sc_law_given.nd rfl (Or.inl rfl))
      (pss_cons (ps_set (i := 5) sc_law_given.nd rfl (Or.inr rfl) (pe_c (law_roll_ok T (by omega)) hr (by rfl) (pa_cons (pv 0) (pa_cons (pv 3) pa_nil))))
      (pss_cons (ps_setLcF (own := [("one", 7)]) (i := 6) rfl sc_law_given.nd rfl rfl (sw_true rfl rfl rfl (by decide +kernel)) (pi_list (b_sortedD T.b (hu64_of hr) (pa_cons (pv 2) pa_nil))) (blkOk_by (own := [("one", 7)]) (N := ["dice", "days", "kept", "high", "turn", "time", "ahead", "one"]) (sc := defScope st_law_given) (by decide +kernel)) (fun _ _ _ _ _ => (by exact (pg_name (i := 7) sc_law_given.nd rfl (Or.inl rfl)))) (fun _ _ _ _ _ => (by exact (pts_one (pt_cmpR op_le (pv 7) (pv 5) (nomark _))))) (fun _ _ _ _ _ => (by exact (pv 7))) (by walk_at "lcf") (by walk_at "lcf") (by walk_at "lcf"))
      (pss_one (ps_if (pt_cmpR (op_neO (hu64_of hr)) (pe_told T rfl (by rfl) hr (show LamX.LamS (defScope st_law_given) _ from LamX.lamS_by (by decide +kernel)) rfl (fun _ _ _ _ _ => rfl) fun A outer s H E f c hq => (pe_mX T.cl_Days (Days_give_ok T (by omega)) hq (passes_call (takes_of rfl rfl rfl rfl) fun _ _ _ _ z => z) (pe_var (i := 1) rfl (Or.inr (Or.inr rfl))) (pa_cons (pe_var (i := 5) rfl (Or.inr (Or.inr rfl))) pa_nil))) (pe_ifExp (pt_cmpR (op_neP (hu64_of hr)) (pv 6) (pe_lst pa_nil) (nomark _)) (pe_dget (hu_of hr) (pv 2) (pe_ix ix_list (pv 6) (pe_op op_sub (b_len T.b (pa_cons (pv 6) pa_nil)) pe_int) (fun _ _ => rfl)) (fun _ _ => rfl)) pe_non) (nomark _)) (pss_one (ps_ret pe_bl)) pss_nil)))))
    (pss_one (ps_ret pe_bl))))), ?_⟩
  obtain ⟨dx, hy⟩ := da.day
  obtain ⟨⟨dx2, hs⟩, hd⟩ := da.sto
  have htm := da.tim
  have hc := T.cl_Days
  have hn2 := T.na_Days_times
  have ndk : (ks kp).Nodup := by rw [hks]; exact ndt
  generalize hFs : (fun m : Int => can ((lk kp m).elim [] (·.2))) = Fs
  have fsOf : ∀ r ∈ kp, Fs r.1 = can r.2.2 := fun r hr => by rw [← hFs]; show can ((lk kp r.1).elim [] (·.2)) = _; rw [lk_of ndk (k := r.1) (v := r.2) hr]; rfl
  have kpOf : ∀ m ∈ ks ts, ∃ r ∈ kp, r.1 = m := fun m hm => by
    rw [← hks] at hm
    obtain ⟨r, hr, h⟩ := List.mem_map.mp hm
    exact ⟨r, hr, h⟩
  have hF : ∀ m nm, lk ts m = some nm → FolOk 4 (Fs m) ∧ FolAt 4 S (Fs m) nm := fun m nm h => by
    obtain ⟨r, hr, rfl⟩ := kpOf m (ks_mem (lk_mem h))
    rw [fsOf r hr]
    exact ⟨(hkp r hr).2.2.1, (hkp r hr).2.2.2 nm h⟩
  have hcan : ∀ r ∈ kp, can (Fs r.1) = can r.2.2 := fun r hr => by rw [fsOf r hr, can_can (hkp r hr).2.1.nd]
  have hsm : ∀ r ∈ kp, sameT (tD (can (Fs r.1))) (tD r.2.2) = true := fun r hr => by rw [hcan r hr]; exact can_len_lk (hkp r hr).2.1.nd
  have hktl : kp.length ≤ 1000 := by
    have z : (ks kp).length = (ks ts).length := by rw [hks]
    unfold ks at z
    rw [List.length_map, List.length_map] at z
    omega
  refine q_when (b := false) (et_or (a := false) (b := false) (et_is (et_test (ev_neIIN (xs := sortI (ks ts)) (ys := sortI (ks kp)) (en_srtDI (ev_fld (ev_var rfl) hy hc hn2 rfl) (rd_of htm) (en_keys ts)) (en_srtDI (ev_var rfl) (rd_of hkd) (en_keys kp)))) (by rw [hks]; simp)) fun _ => ?_) nofun fun _ H2 e2 => ?_
  · have hdk : d ≠ kd := hkne.1
    have htk : tm ≠ kd := hkne.2
    refine et_is (et_test (ev_neIIN (xs := []) (ys := []) (en_is (en_lc (α := Int × (Addr × Tb)) (as := kp) (b := fun _ => false) (f := fun r => V.int r.1) (lc_D (ka := Sum.inl) (vb := fun z : Addr × Tb => V.ref z.1) (fun a => a = kd) kp (fun _ => false) _ ?_ (by omega) (fun _ => rfl) m_val ?_)) (by rw [List.filter_eq_nil_iff.mpr (by simp)]; rfl)) en_lst0)) rfl
    · exact EvX.imp (ev_x (ev_var rfl)) fun v H' e' hv => ⟨kd, hv, rfl, rd_of (e' _ _ hkd)⟩
    · rintro d' H5 B od rfl e5 l r hr
      refine ⟨et_test (fun H6 e6 Q' q' => ?_), nofun⟩
      obtain ⟨hF1, okF, hfol, hat⟩ := hkp r hr
      have stay : ∀ {p : Addr} {o : HO}, H p = some o → p ≠ d' → H6 p = some o := fun {p o} hp hn => e6 _ _ (by rw [l.off _ hn]; exact e5 _ _ hp)
      have nk : ∀ {p : Addr} {o : HO}, H p = some o → (∀ es, o ≠ .dK es) → p ≠ d' := fun {p o} hp hn z => by
        rw [z, hkd] at hp
        cases hp
        exact hn _ rfl
      have hy6 := stay hy (nk hy fun _ => by simp)
      have da6 : DayAt T.C_Days T.C_Store dy st d tm H6 S ts := ⟨⟨dx, hy6⟩, ⟨⟨dx2, stay hs (nk hs fun _ => by simp)⟩, stay hd hdk⟩, stay htm htk, da.ne⟩
      refine mt_use (vs := [.int r.1]) (ev_var rfl) hy6 rfl (ea_cons (ev_var rfl) ea_nil) fun H7 e7 => ⟨dy, st, d, tm, S, ts, Fs, r.1, rfl, da6.ex e7, wf, (show Tab T.P0 H7 from e7 _ _ (stay tab (nk tab fun _ => by simp))), htl, hF, fun m hm p H8 hp e8 h8 => ?_, fun hno => absurd (Int.le_refl _) (hno r.1 (by rw [← hks]; exact List.mem_map.mpr ⟨r, hr, rfl⟩))⟩
      obtain rfl : m = r.1 := by
        have h1 := hm.2.2 r.1 (by rw [← hks]; exact List.mem_map.mpr ⟨r, hr, rfl⟩) (Int.le_refl _)
        have h2 := hm.2.1
        omega
      have hlk8 : H8 d' = some (.frz od (.dK (tKp kp))) := e8 _ _ (e7 _ _ (e6 _ _ l.there))
      refine ev_use (ev_dget (k := .inl r.1) (ev_var rfl) (ev_var rfl) (.inr ⟨_, hlk8⟩) (by rw [en_look inl_inj', lk_of ndk (k := r.1) (v := r.2) hr]; rfl)) fun H9 e9 => ⟨p, r.2.1, _, _, rfl, rfl, rd_of (e9 _ _ h8), rd_of (e9 _ _ (e8 _ _ (e7 _ _ (stay hF1 (hrk r hr))))), fun _ => hits_tD _ _, ?_⟩
      rw [hsm r hr]
      exact q' H9 ((e7.trans e8).trans e9)
  refine q_asgX (R := fun v _ => ∃ m, v = .int m ∧ 50 ≤ m ∧ m ≤ 1000050) ?_ fun v H3 e3 hv => ?_
  · intro H3 e3 Q' q'
    refine ex_maxN (ns := ks kp ++ [0]) (en_is (en_catN (en_listD (ev_var rfl) (e2 _ _ hkd)) (en_lst (ws := [.int 0]) (ea_cons ev_c ea_nil) (by decide)) (by rw [List.length_map, en_len, List.length_singleton]; omega)) ?_) (by simp) H3 e3 _ fun v H4 e4 ⟨m, hv, hm, _⟩ => ?_
    · have e0 : tKp kp = kp.map fun r => ((Sum.inl r.1 : Key), V.ref r.2.1) := rfl
      rw [e0]
      unfold ks
      rw [List.map_map, List.map_append, List.map_map]
      rfl
    · subst hv
      have hb : 0 ≤ m ∧ m ≤ 1000000 := by
        rcases List.mem_append.mp hm with h | h
        · exact ht0 m (by rw [← hks]; exact h)
        · rw [List.mem_singleton.mp h]; exact ⟨by decide, by decide⟩
      exact ⟨m, 50, rfl, rfl, q' _ H4 e4 ⟨m + 50, rfl, by omega, by omega⟩⟩
  obtain ⟨hi, rfl, hi0, hi1⟩ := hv
  have e03 := e2.trans e3
  refine ⟨4, rfl, by decide, by decide, for_range (fun i σ' H' => Mt dc T.tab_law_given LQ H H' ∧ ∃ u4 u5 u6, σ' = [some (.ref dc), some (.ref dy), some (.ref kd), some (.int hi), u4, u5, u6, none]) ⟨mt_of hdc tbs e03, _, _, _, rfl⟩ ?_ ?_⟩
  · rintro i σ' H' _ ⟨m0, u4, u5, u6, rfl⟩
    have nt : ∀ {p : Addr} {o : HO}, H p = some o → (∀ a b c, o ≠ .lst [a, b, c]) → p ≠ dc := fun hp h => dice_ne hdc hp h
    refine roll_use (dc := dc) (n := hi) (ev_var rfl) (ev_var rfl) m0.di (by omega) (by omega) fun tt H5 t0 t1 m5 => ?_
    have m05 := m0.mv m5
    have hkd5 := m05.at hkd (nt hkd fun _ _ _ => by simp) (fun _ => by simp)
    have ah0 : ∀ a, a ∈ (sortI (ks kp)).filter (fun a => decide (a ≤ tt)) ↔ a ∈ ks ts ∧ a ≤ tt := fun a => by
      rw [List.mem_filter, mem_sortI, decide_eq_true_eq, hks]
    have ahs : ((sortI (ks kp)).filter fun a => decide (a ≤ tt)).Pairwise fun a b => a ≤ b := (sortI_sorted _).filter _
    have ahl : ((sortI (ks kp)).filter fun a => decide (a ≤ tt)).length ≤ 1000 := by
      refine Nat.le_trans (List.length_filter_le _ _) ?_
      rw [(sortI_perm _).length_eq]
      unfold ks
      rw [List.length_map]
      exact hktl
    refine q_asgN (o := .lst (((sortI (ks kp)).filter fun a => decide (a ≤ tt)).map V.int)) (en_lc (α := Int) (lc_N (sortI (ks kp)) V.int _ _ (en_srtDI (ev_var rfl) (rd_of hkd5) (en_keys kp)) (by rw [(sortI_perm _).length_eq]; unfold ks; rw [List.length_map]; omega) (fun _ => rfl) m_val (fun a H6 _ _ => et_test (ev_op (ev_var rfl) (ev_var rfl) rv_I0)) fun _ _ _ _ _ => ev_x (ev_var rfl))) fun W H6 hW e6 h6 => ?_
    generalize (sortI (ks kp)).filter (fun a => decide (a ≤ tt)) = ah at h6 ah0 ahs ahl
    have m06 := m05.then e6
    have tabs1 : ∀ {H7 : Hp}, LamX.TabS H7 T.tab_law_given LQ → LamX.Tabs [(T.tab_law_given, LQ)] H7 := fun h p hp => by rw [List.mem_singleton.mp hp]; exact h
    refine ⟨tabs1 m06.tb, fun H7 eN tb7 => ?_⟩
    have hdc6 := m06.di
    have m07 : Mt dc T.tab_law_given LQ H H7 := m06.trans ⟨exn_ext eN, by
      obtain ⟨x, y, z, g⟩ := hdc6
      exact ⟨x, y, z, eN _ _ g fun _ => by simp⟩, tb7 _ (List.mem_singleton.mpr rfl)⟩
    have st7 : ∀ {p : Addr} {o : HO}, H p = some o → (∀ a b c, o ≠ .lst [a, b, c]) → (∀ ps, o ≠ .tbl ps) → H7 p = some o := fun hp h1 h2 => m07.at hp (nt hp h1) h2
    have hy7 := st7 hy (fun _ _ _ => by simp) fun _ => by simp
    have da7 : DayAt T.C_Days T.C_Store dy st d tm H7 S ts := ⟨⟨dx, hy7⟩, ⟨⟨dx2, st7 hs (fun _ _ _ => by simp) fun _ => by simp⟩, st7 hd (fun _ _ _ => by simp) fun _ => by simp⟩, st7 htm (fun _ _ _ => by simp) fun _ => by simp, da.ne⟩
    have tab7 : Tab T.P0 H7 := st7 tab (fun _ _ _ => by simp) fun _ => by simp
    have hkd7 := st7 hkd (fun _ _ _ => by simp) fun _ => by simp
    have h67 : H7 W = some (.lst (ah.map V.int)) := eN _ _ h6 fun _ => by simp
    show tMeth T.C_Days "give" (spGive T.C_Days T.C_Store T.NoSuch T.P0) [] _ (tVar 1) (tCons (tVar 5) tNil) _ H7 _
    refine mt_use (vs := [.int tt]) (ev_var rfl) hy7 rfl (ea_cons (ev_var rfl) ea_nil) fun H8 e8 => ⟨dy, st, d, tm, S, ts, Fs, tt, rfl, da7.ex e8, wf, tab7.ex e8, htl, hF, fun m hm p H9 hp e9 h9 => ?_, fun hno H9 e9 => ⟨T.xm_told, ?_⟩⟩
    · obtain ⟨r, hr, hr1⟩ := kpOf m hm.1
      have hmah : m ∈ ah := (ah0 m).mpr ⟨hm.1, hm.2.1⟩
      have hlast := last_is ahs hmah fun a ha => hm.2.2 a ((ah0 a).mp ha).1 ((ah0 a).mp ha).2
      have hpos := List.length_pos_of_mem hmah
      have e79 := e8.trans e9
      refine if_raw (b := true) (et_is (et_test (ev_neNil (ev_var rfl) (sq_of (e79 _ _ h67)) (flat_ints' ah))) ?_) (fun _ H10 e10 => ?_) nofun
      · cases ah with
        | nil => cases hmah
        | cons => rfl
      · have e7a := e79.trans e10
        have hix : atI (ah.map V.int) ((ah.length : Int) - 1) = some (.int m) := by
          have z : (ah.length : Int) - 1 = ((ah.length - 1 : Nat) : Int) := by omega
          rw [z]
          exact atI_nat (by rw [List.getElem?_map, hlast]; rfl)
        refine ev_use (ev_dget (k := .inl m) (ev_var rfl) (ev_op (ev_var rfl) (ev_op (ev_is (ev_cb (ea_cons (ev_var rfl) ea_nil) (rc_len (.lst (sq_of (e7a _ _ h67))))) (by rw [List.length_map])) ev_c rv_I0) (rv_ixL (sq_of (e7a _ _ h67)) hix)) (rd_of (e7a _ _ hkd7)) (by rw [en_look inl_inj', lk_of ndk (k := m) (v := r.2) (by rw [← hr1]; exact hr)]; rfl)) fun H11 e11 => .inr ⟨p, r.2.1, _, _, rfl, rfl, rd_of ((e10.trans e11) _ _ h9), rd_of ((e7a.trans e11) _ _ (st7 (hkp r hr).1 (fun _ _ _ => by simp) fun _ => by simp)), fun _ => hits_tD _ _, _, rfl, ?_⟩
        have z := hsm r hr
        rw [hr1] at z
        rw [z]
        exact ⟨m07.then (e7a.trans e11), _, _, _, rfl⟩
    · have hah : ah = [] := List.eq_nil_iff_forall_not_mem.mpr fun a ha => hno a ((ah0 a).mp ha).1 ((ah0 a).mp ha).2
      refine if_raw (b := false) (et_is (et_test (ev_neNil (ev_var rfl) (sq_of ((e8.trans e9) _ _ h67)) (flat_ints' ah))) (by rw [hah]; rfl)) nofun (fun _ H10 e10 => ?_)
      exact .inl ⟨rfl, rfl, _, rfl, m07.then ((e8.trans e9).trans e10), _, _, _, rfl⟩
  · rintro σ' H' ⟨m0, u4, u5, u6, rfl⟩
    exact q H' m0
end
end Kw


set_option Elab.async false
set_option linter.all false
set_option maxRecDepth 100000
set_option maxHeartbeats 4000000
/-! Pu1: the law's paths, by a checked list of them at each level. -/
namespace Kw
open PySem PySem.Spec PyProof.Rows L2 Evl
def subU (U : List Str) (n : Str) : List Str := (U.filter fun q => under n q).map (restP n)
/-- what is checked of a list of paths -/
def UOk (U : List Str) : Prop := (∀ p ∈ U, (p.length ≤ 1000 ∧ ∀ n ∈ Txt.split p "/", n.length ≤ 1000 ∧ NameOk n = true) ∧ (Txt.split p "/").length ≤ 1000) ∧ (∀ p ∈ U, ∀ o ∈ overs p, o ∉ U) ∧
  (∀ p ∈ U, (headP p).length ≤ 100 ∧ headP p ≠ "" ∧ 32 ∉ TL.tl (headP p) ∧ 47 ∉ TL.tl (headP p)) ∧ (∀ p ∈ U, flatP p = true → headP p = p) ∧ (∀ p ∈ U, ∀ q ∈ U, headP q = headP p → flatP q = flatP p) ∧
  (∀ p ∈ U, ∀ q ∈ U, under (headP p) q = (decide (headP q = headP p) && !flatP q)) ∧ (∀ p ∈ U, flatP p = false → headP p ++ "/" ++ restP (headP p) p = p) ∧ (∀ p ∈ U, hasS p = !flatP p) ∧ (∀ p ∈ U, splH p = headP p) ∧ (∀ p ∈ U, ∀ q ∈ U, underU (headP p) q = under (headP p) q)
instance (U : List Str) : Decidable (UOk U) := by unfold UOk; infer_instance
def Uall : Nat → List Str → Prop
  | 0, _ => False
  | d + 1, U => UOk U ∧ U.length ≤ 12 ∧ ∀ p ∈ U, flatP p = false → Uall d (subU U (headP p))
def decUall : ∀ (d : Nat) (U : List Str), Decidable (Uall d U)
  | 0, _ => by unfold Uall; infer_instance
  | d + 1, U => by
    unfold Uall
    have : ∀ V, Decidable (Uall d V) := decUall d
    infer_instance
instance (d : Nat) (U : List Str) : Decidable (Uall d U) := decUall d U
theorem paths_all : Uall 4 PATHS := by decide +kernel
end Kw


set_option Elab.async false
set_option linter.all false
set_option maxRecDepth 100000
set_option maxHeartbeats 4000000
/-! Pu2: tables over a checked list of paths are folders that stand. -/
namespace Kw
open PySem PySem.Spec PyProof.Rows L2 Evl
theorem nd_rows {t : List (Str × Str)} (n : (ks t).Nodup) : t.Nodup := by
  unfold ks at n
  exact (List.pairwise_map.mp n).imp fun h e => h (by rw [e])
theorem mem_can {t : Tb} (n : (ks t).Nodup) {r : Str × Str} : r ∈ can t ↔ r ∈ t := by
  have h1 := lk_iff (t := can t) (k := r.1) (v := r.2) (nd_can n)
  have h2 := lk_iff (t := t) (k := r.1) (v := r.2) n
  rw [lk_can n] at h1
  exact h1.symm.trans h2
theorem perm_can {t : Tb} (n : (ks t).Nodup) : (can t).Perm t := (List.perm_ext_iff_of_nodup (nd_rows (nd_can n)) (nd_rows n)).mpr fun r => mem_can n
theorem can_eq {t u : Tb} (n : (ks t).Nodup) (p : u.Perm t) : can u = can t := by
  unfold can
  rw [show sortS (ks u) = sortS (ks t) from sortS_eq (p.map Prod.fst)]
  exact List.map_congr_left fun k _ => by rw [lk_perm n p]
theorem rows_lk {t : Tb} : ∀ {u : Tb}, (∀ r ∈ u, lk t r.1 = some r.2) → u = (ks u).map fun k => (k, (lk t k).getD "")
  | [], _ => rfl
  | r :: u, h => by
    have h1 := h r (List.mem_cons_self ..)
    have h2 := rows_lk (u := u) fun q hq => h q (List.mem_cons_of_mem _ hq)
    show r :: u = (r.1, (lk t r.1).getD "") :: (ks u).map _
    rw [← h2, h1]
    rfl
theorem rowsBy_can {t : Tb} (n : (ks t).Nodup) : rowsBy t = can t := by
  have e := rows_lk (t := t) (u := rowsBy t) fun r hr => lk_of n ((rowsBy_perm t).mem_iff.mp hr)
  rw [ks_rowsBy] at e
  exact e
theorem nd_flat {α β γ : Type} {f : α → List β} {g : β → γ} {h : α → γ} : ∀ {l : List α}, (l.map h).Nodup → (∀ x ∈ l, (f x).Nodup) → (∀ x ∈ l, ∀ y ∈ f x, g y = h x) → (l.flatMap f).Nodup
  | [], _, _, _ => by simp
  | x :: l, n, hf, hg => by
    have n' : h x ∉ l.map h ∧ (l.map h).Nodup := List.nodup_cons.mp n
    rw [List.flatMap_cons, List.nodup_append]
    refine ⟨hf x (List.mem_cons_self ..), nd_flat n'.2 (fun y hy => hf y (List.mem_cons_of_mem _ hy)) fun y hy => hg y (List.mem_cons_of_mem _ hy), fun a ha b hb e => ?_⟩
    obtain ⟨y, hy, hb'⟩ := List.mem_flatMap.mp hb
    refine n'.1 (List.mem_map.mpr ⟨y, hy, ?_⟩)
    rw [← hg y (List.mem_cons_of_mem _ hy) b hb', ← e, hg x (List.mem_cons_self ..) a ha]
theorem nd_map {α β : Type} {f : α → β} {l : List α} (n : l.Nodup) (h : ∀ a ∈ l, ∀ b ∈ l, f a = f b → a = b) : (l.map f).Nodup :=
  List.pairwise_map.mpr (n.imp_of_mem fun {a b} ha hb hne e => hne (h a ha b hb e))
structure InU (U : List Str) (F : Tb) : Prop where
  nd : (ks F).Nodup
  sub : ∀ p ∈ ks F, p ∈ U
  txt : ∀ r ∈ F, r.2.length ≤ 200
section
variable {U : List Str} {F : Tb}
theorem UOk.path (h : UOk U) : ∀ p ∈ U, PathOk p ∧ (Txt.split p "/").length ≤ 1000 := h.1
theorem UOk.over (h : UOk U) : ∀ p ∈ U, ∀ o ∈ overs p, o ∉ U := h.2.1
theorem UOk.head (h : UOk U) : ∀ p ∈ U, (headP p).length ≤ 100 ∧ headP p ≠ "" ∧ 32 ∉ TL.tl (headP p) ∧ 47 ∉ TL.tl (headP p) := h.2.2.1
theorem UOk.flat (h : UOk U) : ∀ p ∈ U, flatP p = true → headP p = p := h.2.2.2.1
theorem UOk.same (h : UOk U) : ∀ p ∈ U, ∀ q ∈ U, headP q = headP p → flatP q = flatP p := h.2.2.2.2.1
theorem UOk.und (h : UOk U) : ∀ p ∈ U, ∀ q ∈ U, under (headP p) q = (decide (headP q = headP p) && !flatP q) := h.2.2.2.2.2.1
theorem UOk.rest (h : UOk U) : ∀ p ∈ U, flatP p = false → headP p ++ "/" ++ restP (headP p) p = p := h.2.2.2.2.2.2.1
theorem UOk.has (h : UOk U) : ∀ p ∈ U, hasS p = !flatP p := h.2.2.2.2.2.2.2.1
theorem UOk.spl (h : UOk U) : ∀ p ∈ U, splH p = headP p := h.2.2.2.2.2.2.2.2.1
theorem UOk.undU (h : UOk U) : ∀ p ∈ U, ∀ q ∈ U, underU (headP p) q = under (headP p) q := h.2.2.2.2.2.2.2.2.2
theorem und_iff (h : UOk U) {p q : Str} (hp : p ∈ U) (hq : q ∈ U) : under (headP p) q = true ↔ headP q = headP p ∧ flatP q = false := by
  rw [h.und p hp q hq]
  simp
theorem rest_back (h : UOk U) {p q : Str} (hp : p ∈ U) (hq : q ∈ U) (hu : under (headP p) q = true) : headP p ++ "/" ++ restP (headP p) q = q := by
  obtain ⟨e, f⟩ := (und_iff h hp hq).mp hu
  rw [← e]
  exact h.rest q hq f
theorem in_key {r : Str × Str} (hF : InU U F) (hr : r ∈ F) : r.1 ∈ U := hF.sub _ (List.mem_map.mpr ⟨r, hr, rfl⟩)
/-- the rows under a head, cut -/
def partL (F : Tb) (n : Str) : Tb := (F.filter fun r => under n r.1).map fun r => (restP n r.1, r.2)
theorem partL_mem {n : Str} {z : Str × Str} : z ∈ partL F n ↔ ∃ r ∈ F, under n r.1 = true ∧ z = (restP n r.1, r.2) := by
  unfold partL
  rw [List.mem_map]
  constructor
  · rintro ⟨r, hr, e⟩
    exact ⟨r, (List.mem_filter.mp hr).1, (List.mem_filter.mp hr).2, e.symm⟩
  · rintro ⟨r, hr, hu, e⟩
    exact ⟨r, List.mem_filter.mpr ⟨hr, hu⟩, e.symm⟩
theorem partL_nd (h : UOk U) (hF : InU U F) {p : Str} (hp : p ∈ U) : (ks (partL F (headP p))).Nodup := by
  unfold partL ks
  rw [List.map_map]
  refine nd_map ((nd_rows hF.nd).filter _) fun a ha b hb e => ?_
  obtain ⟨ha1, ha2⟩ := List.mem_filter.mp ha
  obtain ⟨hb1, hb2⟩ := List.mem_filter.mp hb
  have e' : restP (headP p) a.1 = restP (headP p) b.1 := e
  have e1 : a.1 = b.1 := by
    rw [← rest_back h hp (in_key hF ha1) ha2, ← rest_back h hp (in_key hF hb1) hb2, e']
  have h1 := lk_of hF.nd (k := a.1) (v := a.2) ha1
  have h2 := lk_of hF.nd (k := b.1) (v := b.2) hb1
  rw [e1, h2] at h1
  exact Prod.ext e1 (Option.some.inj h1).symm
theorem partL_in (h : UOk U) (hF : InU U F) {p : Str} (hp : p ∈ U) : InU (subU U (headP p)) (partL F (headP p)) := by
  refine ⟨partL_nd h hF hp, fun q hq => ?_, fun r hr => ?_⟩
  · obtain ⟨z, hz, rfl⟩ := List.mem_map.mp hq
    obtain ⟨r, hr, hu, rfl⟩ := partL_mem.mp hz
    exact List.mem_map.mpr ⟨r.1, List.mem_filter.mpr ⟨in_key hF hr, hu⟩, rfl⟩
  · obtain ⟨q, hq, _, rfl⟩ := partL_mem.mp hr
    exact hF.txt q hq
theorem InU.can (hF : InU U F) : InU U (can F) := ⟨nd_can hF.nd, fun p hp => hF.sub p (by rw [ks_can] at hp; exact mem_sortS.mp hp), fun r hr => hF.txt r ((mem_can hF.nd).mp hr)⟩
theorem partT_eq (h : UOk U) (hF : InU U F) {p : Str} (hp : p ∈ U) : partT F (headP p) = partL (can F) (headP p) := mrg_nd (partL_nd h hF.can hp)
theorem partL_perm {G : Tb} (p : G.Perm F) (n : Str) : (partL G n).Perm (partL F n) := (p.filter _).map _
theorem partU_eq (h : UOk U) (hF : InU U F) {p : Str} (hp : p ∈ U) : partU F (headP p) = partL F (headP p) := by
  have e : (F.filter fun r => underU (headP p) r.1) = F.filter fun r => under (headP p) r.1 := List.filter_congr fun r hr => h.undU p hp _ (in_key hF hr)
  unfold partU
  rw [e]
  exact mrg_nd (partL_nd h hF hp)
theorem partT_in (h : UOk U) (hF : InU U F) {p : Str} (hp : p ∈ U) : InU (subU U (headP p)) (partT F (headP p)) := by rw [partT_eq h hF hp]; exact partL_in h hF.can hp
theorem partT_mem (h : UOk U) (hF : InU U F) {p : Str} (hp : p ∈ U) {z : Str × Str} : z ∈ partT F (headP p) ↔ ∃ r ∈ F, under (headP p) r.1 = true ∧ z = (restP (headP p) r.1, r.2) := by
  rw [partT_eq h hF hp, partL_mem]
  constructor
  · rintro ⟨r, hr, z⟩; exact ⟨r, (mem_can hF.nd).mp hr, z⟩
  · rintro ⟨r, hr, z⟩; exact ⟨r, (mem_can hF.nd).mpr hr, z⟩
theorem nms_nd (F : Tb) : (ks (nms F)).Nodup := by
  unfold nms
  rw [ks_rowsBy]
  exact nd_sortS (nd_mrg _ [] (by simp [ks]))
theorem nms_mem (h : UOk U) (hF : InU U F) {r : Str × Bool} : r ∈ nms F ↔ ∃ p ∈ ks F, r = (headP p, flatP p) := by
  have hk : ∀ p, p ∈ ks (can F) ↔ p ∈ ks F := fun p => by rw [ks_can]; exact mem_sortS
  have key : ∀ q ∈ fnd F, ∃ p ∈ ks F, q = (headP p, flatP p) := fun q hq => by
    let f : Str → Bool := fun n => U.any fun p => decide (headP p = n) && flatP p
    have hf : ∀ p ∈ U, f (headP p) = flatP p := fun p hp => by
      show (U.any fun q => decide (headP q = headP p) && flatP q) = flatP p
      cases hfp : flatP p with
      | true => exact List.any_eq_true.mpr ⟨p, hp, by simp [hfp]⟩
      | false =>
        refine List.any_eq_false.mpr fun q hq => ?_
        by_cases e : headP q = headP p
        · rw [h.same p hp q hq e, hfp]; simp
        · simp [e]
    have h2 := lk_mrg_const ((ks (can F)).map fun p => (headP p, flatP p)) [] f (fun r hr => by
      obtain ⟨p, hp, rfl⟩ := List.mem_map.mp hr
      exact (hf p (hF.sub p ((hk p).mp hp))).symm) (fun r hr => (nomatch hr)) q hq
    have h3 : q.1 ∈ ks (fnd F) := List.mem_map.mpr ⟨q, hq, rfl⟩
    have h4 := (mem_mrg _ [] q.1).mp h3
    rcases h4 with h4 | h4
    · cases h4
    · obtain ⟨r, hr, e⟩ := List.mem_map.mp h4
      obtain ⟨p, hp, rfl⟩ := List.mem_map.mp hr
      have hpF := (hk p).mp hp
      refine ⟨p, hpF, Prod.ext e.symm ?_⟩
      rw [h2, ← e]
      exact hf p (hF.sub p hpF)
  have hperm : r ∈ nms F ↔ r ∈ fnd F := (rowsBy_perm _).mem_iff
  rw [hperm]
  refine ⟨key r, ?_⟩
  rintro ⟨p, hp, rfl⟩
  have h1 : headP p ∈ ks (fnd F) := (mem_mrg _ [] _).mpr (.inr (List.mem_map.mpr ⟨(headP p, flatP p), List.mem_map.mpr ⟨p, (hk p).mpr hp, rfl⟩, rfl⟩))
  obtain ⟨q, hq, e⟩ := List.mem_map.mp h1
  obtain ⟨p', hp', rfl⟩ := key q hq
  have e' : headP p' = headP p := e
  rw [h.same p (hF.sub p hp) p' (hF.sub p' hp') e', e'] at hq
  exact hq
theorem back_mem (h : UOk U) (hF : InU U F) {p : Str} (hp : p ∈ ks F) {y : Str × Str} : y ∈ backOf F (headP p, flatP p) ↔ y ∈ F ∧ headP y.1 = headP p := by
  have hpU := hF.sub p hp
  unfold backOf
  cases hfp : flatP p with
  | true =>
    rw [if_pos rfl, List.mem_singleton]
    have e := h.flat p hpU hfp
    obtain ⟨x, hx⟩ := mem_ks hp
    constructor
    · rintro rfl
      show (headP p, (lk F (headP p)).getD "") ∈ F ∧ headP (headP p) = headP p
      rw [e, hx]
      exact ⟨lk_mem hx, e⟩
    · rintro ⟨hy, hh⟩
      have hyU := in_key hF hy
      have ey := h.flat y.1 hyU (by rw [h.same p hpU y.1 hyU hh, hfp])
      have e2 : y.1 = p := by rw [← ey, hh, e]
      have h3 := lk_of hF.nd (k := y.1) (v := y.2) hy
      refine Prod.ext ?_ ?_
      · show y.1 = headP p
        rw [e, e2]
      · show y.2 = (lk F (headP p)).getD ""
        rw [e, ← e2, h3]; rfl
  | false =>
    rw [if_neg (by simp), List.mem_map]
    have ndP := (partT_in h hF hpU).nd
    constructor
    · rintro ⟨z, hz, rfl⟩
      obtain ⟨r, hr, hu, rfl⟩ := (partT_mem h hF hpU).mp ((mem_can ndP).mp hz)
      have e := rest_back h hpU (in_key hF hr) hu
      have hh := ((und_iff h hpU (in_key hF hr)).mp hu).1
      show (headP p ++ "/" ++ restP (headP p) r.1, r.2) ∈ F ∧ headP (headP p ++ "/" ++ restP (headP p) r.1) = headP p
      rw [e]
      exact ⟨hr, hh⟩
    · rintro ⟨hy, hh⟩
      have hyU := in_key hF hy
      have hu := (und_iff h hpU hyU).mpr ⟨hh, by rw [h.same p hpU y.1 hyU hh, hfp]⟩
      refine ⟨(restP (headP p) y.1, y.2), (mem_can ndP).mpr ((partT_mem h hF hpU).mpr ⟨y, hy, hu, rfl⟩), Prod.ext ?_ rfl⟩
      exact rest_back h hpU hyU hu
theorem app_inj {n a b : Str} (h : n ++ "/" ++ a = n ++ "/" ++ b) : a = b := by
  have e := congrArg TL.tl h
  rw [TL.tl_append, TL.tl_append, TL.tl_append, TL.tl_append] at e
  exact TL.ext_tl (List.append_cancel_left e)
theorem back_perm (h : UOk U) (hF : InU U F) : ((nms F).flatMap (backOf F)).Perm F := by
  refine (List.perm_ext_iff_of_nodup (nd_flat (h := Prod.fst) (g := fun y => headP y.1) (nms_nd F) (fun r hr => ?_) fun r hr y hy => ?_) (nd_rows hF.nd)).mpr fun y => ?_
  · obtain ⟨p, hp, rfl⟩ := (nms_mem h hF).mp hr
    unfold backOf
    split
    · simp
    · refine nd_map (nd_rows (nd_can (partT_in h hF (hF.sub p hp)).nd)) fun a _ b _ e => ?_
      have e1 := congrArg Prod.fst e
      have e2 := congrArg Prod.snd e
      exact Prod.ext (app_inj e1) e2
  · obtain ⟨p, hp, rfl⟩ := (nms_mem h hF).mp hr
    exact ((back_mem h hF hp).mp hy).2
  · rw [List.mem_flatMap]
    constructor
    · rintro ⟨r, hr, hy⟩
      obtain ⟨p, hp, rfl⟩ := (nms_mem h hF).mp hr
      exact ((back_mem h hF hp).mp hy).1
    · intro hy
      have hk : y.1 ∈ ks F := List.mem_map.mpr ⟨y, hy, rfl⟩
      exact ⟨_, (nms_mem h hF).mpr ⟨y.1, hk, rfl⟩, (back_mem h hF hk).mpr ⟨hy, rfl⟩⟩
theorem tb_in (h : UOk U) (hl : U.length ≤ 12) (hF : InU U F) : TbOk F := by
  refine ⟨hF.nd, ?_, fun p hp => h.path p (hF.sub p hp), fun p hp o ho ho2 => h.over p (hF.sub p hp) o ho (hF.sub o ho2)⟩
  have z := nd_sub_len hF.nd hF.sub
  unfold ks at z
  rw [List.length_map] at z
  omega
end
end Kw


set_option Elab.async false
set_option linter.all false
set_option maxRecDepth 100000
set_option maxHeartbeats 4000000
/-! Pu3: .. and their inner folders. -/
namespace Kw
open PySem PySem.Spec PyProof.Rows L2 Evl
theorem sum_mul {α : Type} {c g : α → Nat} {m : Nat} : ∀ {l : List α}, (∀ x ∈ l, c x ≤ m * g x) → (l.map c).sum ≤ m * (l.map g).sum
  | [], _ => by simp
  | x :: l, h => by
    have h1 := h x (List.mem_cons_self ..)
    have h2 := sum_mul (l := l) fun y hy => h y (List.mem_cons_of_mem _ hy)
    simp only [List.map_cons, List.sum_cons, Nat.mul_add]
    omega
section
variable {U : List Str} {F : Tb}
theorem InU.perm {G : Tb} (h : InU U F) (p : G.Perm F) : InU U G := ⟨(p.map Prod.fst).nodup_iff.mpr h.nd, fun q hq => h.sub q ((p.map Prod.fst).mem_iff.mp hq), fun r hr => h.txt r (p.mem_iff.mp hr)⟩
theorem nms_len (h : UOk U) (hl : U.length ≤ 12) (hF : InU U F) : (nms F).length ≤ 12 := by
  have z := nd_sub_len (ys := U.map headP) (nms_nd F) fun n hn => by
    obtain ⟨r, hr, rfl⟩ := List.mem_map.mp hn
    obtain ⟨p, hp, rfl⟩ := (nms_mem h hF).mp hr
    exact List.mem_map.mpr ⟨p, hF.sub p hp, rfl⟩
  unfold ks at z
  rw [List.length_map, List.length_map] at z
  omega
theorem fol_of : ∀ (d : Nat) (U : List Str) (F : Tb), Uall d U → InU U F → FolOk d F ∧ cst d F ≤ F.length * (202 + d) + 1
  | 0, _, _, h, _ => h.elim
  | d + 1, U, F, ⟨h, hl, hs⟩, hF => by
    have hp := back_perm h hF
    have hB : InU U ((nms F).flatMap (backOf F)) := hF.perm hp
    have hreb : reb F = (nms F).flatMap (backOf F) := mrg_nd hB.nd
    have tb := tb_in h hl hF
    have hlen : F.length ≤ 12 := by
      have z := nd_sub_len hF.nd hF.sub
      unfold ks at z
      rw [List.length_map] at z
      omega
    refine ⟨⟨tb, by have := nms_len h hl hF; omega, fun r hr => ?_, by rw [hreb]; exact tb_in h hl hB, by rw [hreb]; exact can_eq hF.nd hp, by rw [hp.length_eq]; omega⟩, ?_⟩
    · obtain ⟨p, hpk, rfl⟩ := (nms_mem h hF).mp hr
      have hpU := hF.sub p hpk
      obtain ⟨a, b, c, e⟩ := h.head p hpU
      refine ⟨a, b, c, e, fun hf => ?_, fun hf => ?_⟩
      · obtain ⟨x, hx⟩ := mem_ks hpk
        exact ⟨x, by rw [h.flat p hpU hf]; exact hx, hF.txt _ (lk_mem hx)⟩
      · exact (fol_of d _ _ (hs p hpU hf) (partT_in h hF hpU)).1
    · have e1 : cst (d + 1) F = 1 + ((nms F).map fun r => if r.2 = true then 202 else cst d (partT F r.1)).sum := rfl
      have hsum := sum_mul (l := nms F) (c := fun r => if r.2 = true then 202 else cst d (partT F r.1)) (g := fun r => (backOf F r).length) (m := 203 + d) fun r hr => by
        obtain ⟨p, hpk, rfl⟩ := (nms_mem h hF).mp hr
        have hpU := hF.sub p hpk
        unfold backOf
        cases hf : flatP p with
        | true =>
          show 202 ≤ (203 + d) * 1
          omega
        | false =>
          show cst d (partT F (headP p)) ≤ (203 + d) * ((can (partT F (headP p))).map fun z => (headP p ++ "/" ++ z.1, z.2)).length
          rw [List.length_map, len_can]
          have ih := (fol_of d _ _ (hs p hpU hf) (partT_in h hF hpU)).2
          have pos : 1 ≤ (partT F (headP p)).length := by
            obtain ⟨x, hx⟩ := mem_ks hpk
            exact List.length_pos_of_mem ((partT_mem h hF hpU).mpr ⟨(p, x), lk_mem hx, (und_iff h hpU hpU).mpr ⟨rfl, hf⟩, rfl⟩)
          have e2 : (203 + d) * (partT F (headP p)).length = (partT F (headP p)).length * (202 + d) + (partT F (headP p)).length := by
            rw [Nat.mul_comm, show 203 + d = (202 + d) + 1 by omega, Nat.mul_add, Nat.mul_one]
          omega
      have e3 : ((nms F).map fun r => (backOf F r).length).sum = F.length := by
        rw [← hp.length_eq, List.length_flatMap]
      rw [e3] at hsum
      rw [e1, show 202 + (d + 1) = 203 + d by omega, Nat.mul_comm F.length]
      omega
def bd : Nat → Nat
  | 0 => 0
  | d + 1 => 1 + 12 * bd d
theorem dirs_mem (h : UOk U) (hF : InU U F) {n : Str} : n ∈ dirs F ↔ ∃ p ∈ ks F, flatP p = false ∧ headP p = n := by
  unfold dirs
  rw [mem_sortS, mem_mrg]
  constructor
  · rintro (hn | hn)
    · cases hn
    · obtain ⟨z, hz, rfl⟩ := List.mem_map.mp hn
      obtain ⟨r, hr, rfl⟩ := List.mem_map.mp hz
      obtain ⟨hr1, hr2⟩ := List.mem_filter.mp hr
      have hU := in_key hF hr1
      rw [h.has _ hU] at hr2
      exact ⟨r.1, List.mem_map.mpr ⟨r, hr1, rfl⟩, by simpa using hr2, (h.spl _ hU).symm⟩
  · rintro ⟨p, hp, hf, rfl⟩
    refine .inr ?_
    obtain ⟨r, hr, rfl⟩ := List.mem_map.mp hp
    have hU := in_key hF hr
    exact List.mem_map.mpr ⟨(splH r.1, 1), List.mem_map.mpr ⟨r, List.mem_filter.mpr ⟨hr, by rw [h.has _ hU, hf]; rfl⟩, rfl⟩, h.spl _ hU⟩
theorem dirs_nd (F : Tb) : (dirs F).Nodup := nd_sortS (nd_mrg _ [] (by simp [ks]))
theorem inn_of : ∀ (d : Nat) (U : List Str) (F : Tb), bd d ≤ 2000 → Uall d U → InU U F → InnOk d F ∧ (inn d F).length ≤ bd d
  | 0, _, _, _, h, _ => h.elim
  | d + 1, U, F, hd, ⟨h, hl, hs⟩, hF => by
    have hd' : bd d ≤ 2000 := by unfold bd at hd; omega
    have hlen : F.length ≤ 12 := by
      have z := nd_sub_len hF.nd hF.sub
      unfold ks at z
      rw [List.length_map] at z
      omega
    have ih : ∀ n ∈ dirs F, (n.length ≤ 1000 ∧ InnOk d (partU F n)) ∧ (inn d (partU F n)).length ≤ bd d := fun n hn => by
      obtain ⟨p, hp, hf, rfl⟩ := (dirs_mem h hF).mp hn
      have hpU := hF.sub p hp
      have hI : InU (subU U (headP p)) (partU F (headP p)) := by rw [partU_eq h hF hpU]; exact partL_in h hF hpU
      obtain ⟨a, b⟩ := inn_of d _ _ hd' (hs p hpU hf) hI
      exact ⟨⟨by have := (h.head p hpU).1; omega, a⟩, b⟩
    have hdl : (dirs F).length ≤ 12 := by
      have z := nd_sub_len (ys := U.map headP) (dirs_nd F) fun n hn => by
        obtain ⟨p, hp, _, rfl⟩ := (dirs_mem h hF).mp hn
        exact List.mem_map.mpr ⟨p, hF.sub p hp, rfl⟩
      rw [List.length_map] at z
      omega
    have hll : (inn (d + 1) F).length ≤ bd (d + 1) := by
      show (rowsBy F :: (dirs F).flatMap fun n => inn d (partU F n)).length ≤ 1 + 12 * bd d
      have z := flat_len (l := dirs F) (f := fun n => inn d (partU F n)) (b := bd d) fun n hn => (ih n hn).2
      have z2 : (dirs F).length * bd d ≤ 12 * bd d := Nat.mul_le_mul_right _ hdl
      rw [List.length_cons]
      omega
    exact ⟨⟨hF.nd, by omega, fun r hr => ((h.path _ (in_key hF hr)).1).1, by omega, fun n hn => (ih n hn).1⟩, hll⟩
/-- the inner folders, by their canonical rows -/
def FD : Nat → Tb → Tb → Prop
  | 0, _, _ => False
  | d + 1, F, G => G = can F ∨ ∃ r ∈ nms F, r.2 = false ∧ FD d (partT F r.1) G
theorem inn_fd {G : Tb} : ∀ (d : Nat) (U : List Str) (F F' : Tb), Uall d U → InU U F → F'.Perm F → (G ∈ inn d F' ↔ FD d F G)
  | 0, _, _, _, h, _, _ => h.elim
  | d + 1, U, F, F', ⟨h, hl, hs⟩, hF, p => by
    have hF' := hF.perm p
    have hc : rowsBy F' = can F := by rw [rowsBy_can hF'.nd, can_eq hF.nd p]
    have hk : ∀ q, q ∈ ks F' ↔ q ∈ ks F := fun q => (p.map Prod.fst).mem_iff
    have sub : ∀ q ∈ ks F, flatP q = false → (G ∈ inn d (partU F' (headP q)) ↔ FD d (partT F (headP q)) G) := fun q hq hf => by
      have hqU := hF.sub q hq
      refine inn_fd d _ _ _ (hs q hqU hf) (partT_in h hF hqU) ?_
      rw [partU_eq h hF' hqU, partT_eq h hF hqU]
      exact partL_perm (p.trans (perm_can hF.nd).symm) _
    show G ∈ rowsBy F' :: (dirs F').flatMap (fun n => inn d (partU F' n)) ↔ G = can F ∨ ∃ r ∈ nms F, r.2 = false ∧ FD d (partT F r.1) G
    rw [List.mem_cons, hc, List.mem_flatMap]
    refine or_congr Iff.rfl ⟨?_, ?_⟩
    · rintro ⟨n, hn, hG⟩
      obtain ⟨q, hq, hf, rfl⟩ := (dirs_mem h hF').mp hn
      have hqF := (hk q).mp hq
      exact ⟨(headP q, flatP q), (nms_mem h hF).mpr ⟨q, hqF, rfl⟩, hf, (sub q hqF hf).mp hG⟩
    · rintro ⟨r, hr, hf, hG⟩
      obtain ⟨q, hq, rfl⟩ := (nms_mem h hF).mp hr
      exact ⟨headP q, (dirs_mem h hF').mpr ⟨q, (hk q).mpr hq, hf, rfl⟩, (sub q hq hf).mpr hG⟩
end
theorem ltb_in {F : Tb} (h : LTb F) : InU PATHS F := ⟨h.nd, h.sub, h.txt⟩
theorem ltb_ok {F : Tb} (h : LTb F) : TbOk F ∧ FolOk 4 (can F) ∧ cst 4 (can F) ≤ 2500 ∧ InnOk 4 F := by
  obtain ⟨a, b⟩ := fol_of 4 PATHS (can F) paths_all (ltb_in h).can
  refine ⟨tb_in paths_all.1 paths_all.2.1 (ltb_in h), a, ?_, (inn_of 4 PATHS F (by decide) paths_all (ltb_in h)).1⟩
  have := h.len
  rw [len_can] at b
  have z : F.length * (202 + 4) ≤ 12 * (202 + 4) := Nat.mul_le_mul_right _ this
  omega
theorem ltb_fd {F G : Tb} (h : LTb F) : G ∈ inn 4 F ↔ FD 4 (can F) G := inn_fd 4 PATHS (can F) F paths_all (ltb_in h).can (perm_can h.nd).symm
end Kw


set_option Elab.async false
set_option linter.all false
set_option maxRecDepth 100000
set_option maxHeartbeats 4000000
/-! Pu4: what hangs under a folder's name. -/
namespace Kw
open PySem PySem.Spec PyProof.Rows L2 Evl
theorem paired_with {β γ : Type} {R : β → γ → Prop} {Q : γ → Prop} : ∀ {xs : List β} {ys : List γ}, Paired R xs ys → (∀ y ∈ ys, Q y) → Paired (fun x y => R x y ∧ Q y) xs ys
  | _, _, .nil, _ => .nil
  | _, _, .cons a r, h => .cons ⟨a, h _ (List.mem_cons_self ..)⟩ (paired_with r fun y hy => h y (List.mem_cons_of_mem _ hy))
theorem paired_l {β γ : Type} {R : β → γ → Prop} : ∀ {xs : List β} {ys : List γ}, Paired R xs ys → ∀ x ∈ xs, ∃ y ∈ ys, R x y
  | _, _, .nil, _, h => nomatch h
  | _, _, .cons a r, x, h => by
    rcases List.mem_cons.mp h with rfl | h
    · exact ⟨_, List.mem_cons_self .., a⟩
    · obtain ⟨y, hy, b⟩ := paired_l r x h
      exact ⟨y, List.mem_cons_of_mem _ hy, b⟩
theorem paired_r {β γ : Type} {R : β → γ → Prop} : ∀ {xs : List β} {ys : List γ}, Paired R xs ys → ∀ y ∈ ys, ∃ x ∈ xs, R x y
  | _, _, .nil, _, h => nomatch h
  | _, _, .cons a r, y, h => by
    rcases List.mem_cons.mp h with rfl | h
    · exact ⟨_, List.mem_cons_self .., a⟩
    · obtain ⟨x, hx, b⟩ := paired_r r y h
      exact ⟨x, List.mem_cons_of_mem _ hx, b⟩
theorem paired_sum {β γ : Type} {R : β → γ → Prop} {f : β → Nat} {g : γ → Nat} : ∀ {xs : List β} {ys : List γ}, Paired R xs ys → (∀ x y, R x y → f x ≤ g y) → (xs.map f).sum ≤ (ys.map g).sum
  | _, _, .nil, _ => by simp
  | _, _, .cons a r, h => by
    have h1 := h _ _ a
    have h2 := paired_sum (f := f) (g := g) r h
    simp only [List.map_cons, List.sum_cons]
    omega
theorem kids_p (c : Str) : kidsOf (("p" : Str) ++ c) = [] := by
  unfold kidsOf
  rw [take1 _ _ (by decide), if_neg (by decide), if_neg (by decide)]
theorem kids_l {S : Tb} (wf : WF S) {names : List Str} (h : ∀ n ∈ names, ∃ x, lk S n = some x) : kidsOf (("l" : Str) ++ Txt.join " " names) = names := by
  unfold kidsOf
  rw [take1 _ _ (by decide), if_neg (by decide), if_pos rfl, drop1 _ _ (by decide)]
  exact words_join (fun n hn => let ⟨_, a⟩ := h n hn; name_free wf a (by decide)) fun n hn => let ⟨_, a⟩ := h n hn; name_ne wf a
def tpc (F : Tb) (is : List Str) : Str := ("t" : Str) ++ Txt.join "/" (((nms F).zip is).map fun z => rowStr z.1.1 z.2)
theorem rowAt_lk {S F : Tb} {d : Nat} {r : Str × Bool} {i : Str} (h : RowAt d S F r i) : ∃ x, lk S i = some x := by
  unfold RowAt at h
  split at h
  · obtain ⟨_, _, y⟩ := h; exact ⟨_, y⟩
  · cases d with
    | zero => exact h.elim
    | succ d => obtain ⟨_, _, y⟩ := h; exact ⟨_, y⟩
theorem rows_tpc {S F : Tb} (wf : WF S) {d : Nat} (ok : FolOk (d + 1) F) {is : List Str} (hP : Paired (fun i r => RowAt d S F r i) is (nms F)) : rowsL (mkS ((TL.tl (tpc F is)).drop 1)) = ((nms F).zip is).map fun z => (z.1.1, z.2) := by
  unfold tpc
  rw [drop1 _ _ (by decide)]
  have e : (((nms F).zip is).map fun z => rowStr z.1.1 z.2) = (((nms F).zip is).map fun z => ((z.1.1, z.2) : Str × Str)).map fun z => rowStr z.1 z.2 := by rw [List.map_map]; rfl
  rw [e]
  refine rows_join fun z hz => ?_
  obtain ⟨w, hw, rfl⟩ := List.mem_map.mp hz
  obtain ⟨h1, h2⟩ := List.of_mem_zip (a := w.1) (b := w.2) hw
  obtain ⟨_, b, c, e, _⟩ := ok.2.2.1 w.1 h1
  obtain ⟨r, _, hr⟩ := paired_l hP w.2 h2
  obtain ⟨x, hx⟩ := rowAt_lk hr
  exact ⟨b, c, e, name_free wf hx (by decide)⟩
theorem kids_t {S F : Tb} (wf : WF S) {d : Nat} (ok : FolOk (d + 1) F) {is : List Str} (hP : Paired (fun i r => RowAt d S F r i) is (nms F)) : kidsOf (tpc F is) = is := by
  unfold kidsOf
  have ht : (TL.tl (tpc F is)).take 1 = TL.tl ("t" : Str) := take1 _ _ (by decide)
  rw [if_pos ht, rows_tpc wf ok hP, List.map_map]
  show ((nms F).zip is).map (fun z => z.2) = is
  exact zip_snd (Paired.length hP).symm
theorem fol_open {S F : Tb} {d : Nat} {nm : Str} (h : FolAt (d + 1) S F nm) : ∃ is, Paired (fun i r => RowAt d S F r i) is (nms F) ∧ lk S nm = some (tpc F is) := h
theorem reach_trans {S : Tb} {a b c : Str} (h1 : Reach S a b) (h2 : Reach S b c) : Reach S a c := by
  induction h2 with
  | refl => exact h1
  | step h hx hc ih => exact .step ih hx hc
theorem names_lk {S : Tb} {names cs : List Str} (hP : Paired (fun n c => lk S n = some (("p" : Str) ++ c)) names cs) : ∀ n ∈ names, ∃ x, lk S n = some x := fun n hn => let ⟨_, _, h⟩ := paired_l hP n hn; ⟨_, h⟩
/-! ### kept by what is kept -/
theorem txt_sub {S S' : Tb} (wf : WF S) {x a : Str} (h : TxtAt S x a) (k : ∀ b y, Reach S a b → lk S b = some y → lk S' b = some y) : TxtAt S' x a := by
  obtain ⟨names, hP, hl⟩ := h
  have hk := kids_l wf (names_lk hP)
  have hr : ∀ n ∈ names, Reach S a n := fun n hn => .step .refl hl (by rw [hk]; exact hn)
  refine ⟨names, ?_, k _ _ .refl hl⟩
  have go : ∀ {ns cs : List Str}, (∀ n ∈ ns, Reach S a n) → Paired (fun n c => lk S n = some (("p" : Str) ++ c)) ns cs → Paired (fun n c => lk S' n = some (("p" : Str) ++ c)) ns cs := fun {ns cs} hr p => by
    induction p with
    | nil => exact .nil
    | cons h1 _ ih => exact .cons (k _ _ (hr _ (List.mem_cons_self ..)) h1) (ih fun n hn => hr n (List.mem_cons_of_mem _ hn))
  exact go hr hP
theorem fol_sub {S S' : Tb} (wf : WF S) : ∀ {d : Nat} {F : Tb} {nm : Str}, FolOk d F → FolAt d S F nm → (∀ b y, Reach S nm b → lk S b = some y → lk S' b = some y) → FolAt d S' F nm
  | 0, _, _, h, _, _ => h.elim
  | d + 1, F, nm, ok, h, k => by
    obtain ⟨is, hP, hl⟩ := fol_open h
    have hk := kids_t wf ok hP
    have hr : ∀ i ∈ is, Reach S nm i := fun i hi => .step .refl hl (by rw [hk]; exact hi)
    refine ⟨is, ?_, k _ _ .refl hl⟩
    have go : ∀ {js : List Str} {rs : List (Str × Bool)}, (∀ i ∈ js, Reach S nm i) → (∀ r ∈ rs, r ∈ nms F) → Paired (fun i r => RowAt d S F r i) js rs → Paired (fun i r => RowAt d S' F r i) js rs := fun {js rs} hr hrs p => by
      induction p with
      | nil => exact .nil
      | @cons i r js rs h1 _ ih =>
        refine .cons ?_ (ih (fun n hn => hr n (List.mem_cons_of_mem _ hn)) fun n hn => hrs n (List.mem_cons_of_mem _ hn))
        have hi := hr i (List.mem_cons_self ..)
        have k' : ∀ b y, Reach S i b → lk S b = some y → lk S' b = some y := fun b y hb => k b y (reach_trans hi hb)
        unfold RowAt at h1 ⊢
        by_cases c : r.2 = true
        · rw [if_pos c] at h1 ⊢; exact txt_sub wf h1 k'
        · rw [if_neg c] at h1 ⊢
          exact fol_sub wf ((ok.2.2.1 r (hrs r (List.mem_cons_self ..))).2.2.2.2.2 (by simpa using c)) h1 k'
    exact go hr (fun r hr => hr) hP
/-! ### how deep, how wide -/
theorem p_dpt {S : Tb} {n c : Str} (h : lk S n = some (("p" : Str) ++ c)) (e : Nat) : Dpt (e + 1) S n ∧ rl (e + 1) S n = 1 := by
  refine ⟨⟨_, h, fun k hk => by rw [kids_p] at hk; cases hk⟩, ?_⟩
  unfold rl
  rw [h]
  show 1 + ((kidsOf (("p" : Str) ++ c)).map (rl e S)).sum = 1
  rw [kids_p]; rfl
theorem txt_dpt {S : Tb} (wf : WF S) {x a : Str} (h : TxtAt S x a) (hx : x.length ≤ 200) (e : Nat) : Dpt (e + 2) S a ∧ rl (e + 2) S a ≤ 202 := by
  obtain ⟨names, hP, hl⟩ := h
  have hk := kids_l wf (names_lk hP)
  refine ⟨⟨_, hl, fun k hk' => ?_⟩, ?_⟩
  · rw [hk] at hk'
    obtain ⟨c, _, h⟩ := paired_l hP k hk'
    exact (p_dpt h e).1
  · unfold rl
    rw [hl]
    show 1 + ((kidsOf (("l" : Str) ++ Txt.join " " names)).map (rl (e + 1) S)).sum ≤ 202
    rw [hk]
    have z := paired_sum (f := rl (e + 1) S) (g := fun _ => 1) hP fun n c h => Nat.le_of_eq (p_dpt h e).2
    have z2 := cuts_cnt hx
    have z3 : ((cutsS x).map fun _ => 1).sum = (cutsS x).length := by
      induction cutsS x with
      | nil => rfl
      | cons a r ih => rw [List.map_cons, List.sum_cons, ih, List.length_cons]; omega
    omega
theorem fol_dpt {S : Tb} (wf : WF S) : ∀ {d : Nat} {F : Tb} {nm : Str}, FolOk d F → FolAt d S F nm → Dpt (d + 2) S nm ∧ rl (d + 2) S nm ≤ cst d F
  | 0, _, _, h, _ => h.elim
  | d + 1, F, nm, ok, h => by
    obtain ⟨is, hP, hl⟩ := fol_open h
    have hk := kids_t wf ok hP
    have hP2 := paired_with (Q := fun r => r ∈ nms F) hP fun r hr => hr
    have one : ∀ (i : Str) (r : Str × Bool), RowAt d S F r i ∧ r ∈ nms F → Dpt (d + 2) S i ∧ rl (d + 2) S i ≤ (if r.2 = true then 202 else cst d (partT F r.1)) := fun i r ⟨h1, hr⟩ => by
      obtain ⟨_, _, _, _, ht, hf⟩ := ok.2.2.1 r hr
      unfold RowAt at h1
      by_cases c : r.2 = true
      · rw [if_pos c] at h1 ⊢
        obtain ⟨x, hx, hxl⟩ := ht c
        rw [hx] at h1
        exact txt_dpt wf h1 hxl d
      · rw [if_neg c] at h1 ⊢
        exact fol_dpt wf (hf (by simpa using c)) h1
    refine ⟨⟨_, hl, fun k hk' => ?_⟩, ?_⟩
    · rw [hk] at hk'
      obtain ⟨r, _, h⟩ := paired_l hP2 k hk'
      exact (one k r h).1
    · unfold rl
      rw [hl]
      show 1 + ((kidsOf (tpc F is)).map (rl (d + 2) S)).sum ≤ _
      rw [hk]
      have z := paired_sum (f := rl (d + 2) S) (g := fun r => if r.2 = true then 202 else cst d (partT F r.1)) hP2 fun i r h => (one i r h).2
      show _ ≤ 1 + ((nms F).map fun r => if r.2 = true then 202 else cst d (partT F r.1)).sum
      omega
theorem rooted_of {S F : Tb} {nm : Str} (wf : WF S) (ok : FolOk 4 F) (hc : cst 4 F ≤ 2500) (h : FolAt 4 S F nm) : ∃ n, Dpt n S nm ∧ rl n S nm ≤ 80000 := by
  obtain ⟨a, b⟩ := fol_dpt wf ok h
  exact ⟨_, a, by omega⟩
/-! ### swept -/
noncomputable def swp (S : Tb) (ts : Tm) : Tb := S.filter fun r => decide (r.1 ∈ needL S ts)
theorem swp_lk {S : Tb} {ts : Tm} (wf : WF S) (hr : Rooted S ts) {a y : Str} : lk (swp S ts) a = some y ↔ lk S a = some y ∧ ∃ r ∈ ts, Reach S r.2 a := by
  unfold swp
  rw [lk_iff (wf_sub wf _).nd, lk_iff wf.nd]
  rw [List.mem_filter, decide_eq_true_eq, mem_needL hr]
theorem swp_at {S F : Tb} {ts : Tm} {nm : Str} {t : Int} (wf : WF S) (ok : FolOk 4 F) (hr : Rooted S ts) (hm : (t, nm) ∈ ts) (h : FolAt 4 S F nm) : FolAt 4 (swp S ts) F nm :=
  fol_sub wf ok h fun b y hb hy => (swp_lk wf hr).mpr ⟨hy, _, hm, hb⟩
end Kw


set_option Elab.async false
set_option linter.all false
set_option maxRecDepth 100000
set_option maxHeartbeats 4000000
/-! Pu5: each piece that hangs under a folder, and what it is. -/
namespace Kw
open PySem PySem.Spec PyProof.Rows L2 Evl
/-- the folder F' with so many levels stands within F -/
def FE : Nat → Tb → Nat → Tb → Prop
  | 0, _, _, _ => False
  | d + 1, F, e, G => (e = d + 1 ∧ G = F) ∨ ∃ r ∈ nms F, r.2 = false ∧ FE d (partT F r.1) e G
theorem fd_fe {G : Tb} : ∀ {d : Nat} {F : Tb}, FD d F G ↔ ∃ e F', FE d F e F' ∧ G = can F'
  | 0, F => ⟨fun h => h.elim, fun ⟨_, _, h, _⟩ => h.elim⟩
  | d + 1, F => by
    constructor
    · rintro (h | ⟨r, hr, hf, h⟩)
      · exact ⟨d + 1, F, .inl ⟨rfl, rfl⟩, h⟩
      · obtain ⟨e, F', h1, h2⟩ := fd_fe.mp h
        exact ⟨e, F', .inr ⟨r, hr, hf, h1⟩, h2⟩
    · rintro ⟨e, F', ⟨_, rfl⟩ | ⟨r, hr, hf, h⟩, h2⟩
      · exact .inl h2
      · exact .inr ⟨r, hr, hf, fd_fe.mpr ⟨e, F', h, h2⟩⟩
theorem fe_child {r : Str × Bool} {G : Tb} {e : Nat} (hr : r ∈ nms G) (hf : r.2 = false) (he : 0 < e) : ∀ {d : Nat} {F : Tb}, FE d F (e + 1) G → FE d F e (partT G r.1)
  | 0, _, h => h.elim
  | d + 1, F, h => by
    rcases h with ⟨h1, h2⟩ | ⟨r2, hr2, hf2, h⟩
    · subst h2
      have e1 : e = d := by omega
      subst e1
      refine .inr ⟨r, hr, hf, ?_⟩
      obtain ⟨j, rfl⟩ : ∃ j, e = j + 1 := ⟨e - 1, by omega⟩
      exact .inl ⟨rfl, rfl⟩
    · exact .inr ⟨r2, hr2, hf2, fe_child hr hf he h⟩
theorem fe_in {e : Nat} {G : Tb} : ∀ {d : Nat} {U : List Str} {F : Tb}, Uall d U → InU U F → FE d F e G → ∃ V, Uall e V ∧ InU V G
  | 0, _, _, h, _, _ => h.elim
  | d + 1, U, F, hU, hF, h => by
    rcases h with ⟨rfl, rfl⟩ | ⟨r, hr, hf, h⟩
    · exact ⟨U, hU, hF⟩
    · obtain ⟨p, hp, rfl⟩ := (nms_mem hU.1 hF).mp hr
      exact fe_in (hU.2.2 p (hF.sub p hp) hf) (partT_in hU.1 hF (hF.sub p hp)) h
/-- the texts of a table, row by row -/
theorem vals_iff {U : List Str} {F : Tb} (h : UOk U) (hF : InU U F) {x : Str} : x ∈ valsF F ↔ ∃ r ∈ nms F, if r.2 = true then x = (lk F r.1).getD "" else x ∈ valsF (partT F r.1) := by
  have hp := back_perm h hF
  unfold valsF
  rw [← (hp.map Prod.snd).mem_iff, List.mem_map]
  constructor
  · rintro ⟨y, hy, rfl⟩
    obtain ⟨r, hr, hb⟩ := List.mem_flatMap.mp hy
    refine ⟨r, hr, ?_⟩
    unfold backOf at hb
    split at hb
    · rename_i c
      rw [if_pos c, List.mem_singleton.mp hb]
    · rename_i c
      rw [if_neg c]
      obtain ⟨z, hz, rfl⟩ := List.mem_map.mp hb
      obtain ⟨p, hpk, rfl⟩ := (nms_mem h hF).mp hr
      exact List.mem_map.mpr ⟨z, (mem_can (partT_in h hF (hF.sub p hpk)).nd).mp hz, rfl⟩
  · rintro ⟨r, hr, hx⟩
    by_cases c : r.2 = true
    · rw [if_pos c] at hx
      exact ⟨(r.1, (lk F r.1).getD ""), List.mem_flatMap.mpr ⟨r, hr, by unfold backOf; rw [if_pos c]; exact List.mem_singleton.mpr rfl⟩, hx.symm⟩
    · rw [if_neg c] at hx
      obtain ⟨z, hz, rfl⟩ := List.mem_map.mp hx
      obtain ⟨p, hpk, rfl⟩ := (nms_mem h hF).mp hr
      exact ⟨(headP p ++ "/" ++ z.1, z.2), List.mem_flatMap.mpr ⟨_, hr, by unfold backOf; rw [if_neg c]; exact List.mem_map.mpr ⟨z, (mem_can (partT_in h hF (hF.sub p hpk)).nd).mpr hz, rfl⟩⟩, rfl⟩
theorem vals_sub {x : Str} {e : Nat} {G : Tb} : ∀ {d : Nat} {U : List Str} {F : Tb}, Uall d U → InU U F → FE d F e G → x ∈ valsF G → x ∈ valsF F
  | 0, _, _, h, _, _, _ => h.elim
  | d + 1, U, F, hU, hF, h, hx => by
    rcases h with ⟨rfl, rfl⟩ | ⟨r, hr, hf, h⟩
    · exact hx
    · obtain ⟨p, hp, rfl⟩ := (nms_mem hU.1 hF).mp hr
      refine (vals_iff hU.1 hF).mpr ⟨_, hr, ?_⟩
      rw [if_neg (by rw [hf]; simp)]
      exact vals_sub (hU.2.2 p (hF.sub p hp) hf) (partT_in hU.1 hF (hF.sub p hp)) h hx
/-- what a name that is reached names -/
def Kind (S : Tb) (d : Nat) (F : Tb) (b : Str) : Prop := (∃ e G, FE d F e G ∧ FolAt e S G b) ∨ (∃ x ∈ valsF F, TxtAt S x b) ∨ ∃ x ∈ valsF F, ∃ c ∈ cutsS x, lk S b = some (("p" : Str) ++ c)
theorem reach_kind {S : Tb} (wf : WF S) {d : Nat} {U : List Str} {F : Tb} {nm b : Str} (hU : Uall d U) (hF : InU U F) (h : FolAt d S F nm) (hr : Reach S nm b) : Kind S d F b := by
  induction hr with
  | refl =>
    cases d with
    | zero => exact h.elim
    | succ d => exact .inl ⟨_, _, .inl ⟨rfl, rfl⟩, h⟩
  | @step b c y hb hy hc ih =>
    rcases ih with ⟨e, G, hG, hat⟩ | ⟨x, hx, hat⟩ | ⟨x, hx, k, hk, hat⟩
    · cases e with
      | zero => exact hat.elim
      | succ e =>
        obtain ⟨V, hV, hGV⟩ := fe_in hU hF hG
        have ok := (fol_of _ _ _ hV hGV).1
        obtain ⟨is, hP, hl⟩ := fol_open hat
        rw [hl] at hy
        cases hy
        rw [kids_t wf ok hP] at hc
        obtain ⟨r, hr, hrow⟩ := paired_l hP c hc
        unfold RowAt at hrow
        by_cases z : r.2 = true
        · rw [if_pos z] at hrow
          refine .inr (.inl ⟨_, vals_sub hU hF hG ((vals_iff hV.1 hGV).mpr ⟨r, hr, ?_⟩), hrow⟩)
          rw [if_pos z]
        · rw [if_neg z] at hrow
          have he : 0 < e := by
            cases e with
            | zero => exact hrow.elim
            | succ e => exact Nat.succ_pos _
          exact .inl ⟨e, _, fe_child hr (by simpa using z) he hG, hrow⟩
    · obtain ⟨names, hP, hl⟩ := hat
      rw [hl] at hy
      cases hy
      rw [kids_l wf (names_lk hP)] at hc
      obtain ⟨k, hk, hat⟩ := paired_l hP c hc
      exact .inr (.inr ⟨x, hx, k, hk, hat⟩)
    · rw [hat] at hy
      cases hy
      rw [kids_p] at hc
      cases hc
theorem txt_p {S : Tb} (wf : WF S) {x a b c : Str} (h : TxtAt S x a) (hc : c ∈ cutsS x) (hb : lk S b = some (("p" : Str) ++ c)) : Reach S a b := by
  obtain ⟨names, hP, hl⟩ := h
  obtain ⟨n, hn, hl2⟩ := paired_r hP c hc
  have e : b = n := name_uniq wf hb hl2
  subst e
  exact .step .refl hl (by rw [kids_l wf (names_lk hP)]; exact hn)
theorem kind_reach {S : Tb} (wf : WF S) {b : Str} : ∀ {d : Nat} {U : List Str} {F : Tb} {nm : Str}, Uall d U → InU U F → FolAt d S F nm → Kind S d F b → Reach S nm b
  | 0, _, _, _, h, _, _, _ => h.elim
  | d + 1, U, F, nm, hU, hF, h, hk => by
    have ok := (fol_of _ _ _ hU hF).1
    obtain ⟨is, hP, hl⟩ := fol_open h
    have hkid := kids_t wf ok hP
    have inner : ∀ r ∈ nms F, ∃ i, RowAt d S F r i ∧ Reach S nm i := fun r hr => by
      obtain ⟨i, hi, hrow⟩ := paired_r hP r hr
      exact ⟨i, hrow, .step .refl hl (by rw [hkid]; exact hi)⟩
    have deep : ∀ r ∈ nms F, r.2 = false → ∃ i, FolAt d S (partT F r.1) i ∧ Reach S nm i ∧ (Kind S d (partT F r.1) b → Reach S i b) := fun r hr hf => by
      obtain ⟨i, hrow, hre⟩ := inner r hr
      unfold RowAt at hrow
      rw [if_neg (by rw [hf]; simp)] at hrow
      obtain ⟨p, hp, rfl⟩ := (nms_mem hU.1 hF).mp hr
      exact ⟨i, hrow, hre, kind_reach wf (hU.2.2 p (hF.sub p hp) hf) (partT_in hU.1 hF (hF.sub p hp)) hrow⟩
    rcases hk with ⟨e, G, hG, hat⟩ | ⟨x, hx, hat⟩ | ⟨x, hx, k, hk, hat⟩
    · rcases hG with ⟨rfl, rfl⟩ | ⟨r, hr, hf, hG⟩
      · rw [fol_uniq wf hat h]; exact .refl
      · obtain ⟨i, _, h2, h3⟩ := deep r hr hf
        exact reach_trans h2 (h3 (.inl ⟨e, G, hG, hat⟩))
    · obtain ⟨r, hr, hx⟩ := (vals_iff hU.1 hF).mp hx
      by_cases c : r.2 = true
      · rw [if_pos c] at hx
        obtain ⟨i, hrow, hre⟩ := inner r hr
        unfold RowAt at hrow
        rw [if_pos c, ← hx] at hrow
        rw [txt_uniq wf hat hrow]
        exact hre
      · rw [if_neg c] at hx
        obtain ⟨i, _, h2, h3⟩ := deep r hr (by simpa using c)
        exact reach_trans h2 (h3 (.inr (.inl ⟨x, hx, hat⟩)))
    · obtain ⟨r, hr, hx⟩ := (vals_iff hU.1 hF).mp hx
      by_cases c : r.2 = true
      · rw [if_pos c] at hx
        obtain ⟨i, hrow, hre⟩ := inner r hr
        unfold RowAt at hrow
        rw [if_pos c, ← hx] at hrow
        exact reach_trans hre (txt_p wf hrow hk hat)
      · rw [if_neg c] at hx
        obtain ⟨i, _, h2, h3⟩ := deep r hr (by simpa using c)
        exact reach_trans h2 (h3 (.inr (.inr ⟨x, hx, k, hk, hat⟩)))
/-- each text, each inner folder of a table that stands does stand -/
theorem txt_there {S : Tb} {x : Str} : ∀ {d : Nat} {U : List Str} {F : Tb} {nm : Str}, Uall d U → InU U F → FolAt d S F nm → x ∈ valsF F → ∃ a, TxtAt S x a
  | 0, _, _, _, h, _, _, _ => h.elim
  | d + 1, U, F, nm, hU, hF, h, hx => by
    obtain ⟨is, hP, hl⟩ := fol_open h
    obtain ⟨r, hr, hx⟩ := (vals_iff hU.1 hF).mp hx
    obtain ⟨i, hi, hrow⟩ := paired_r hP r hr
    unfold RowAt at hrow
    by_cases c : r.2 = true
    · rw [if_pos c] at hx hrow
      rw [← hx] at hrow
      exact ⟨i, hrow⟩
    · rw [if_neg c] at hx hrow
      obtain ⟨p, hp, rfl⟩ := (nms_mem hU.1 hF).mp hr
      exact txt_there (hU.2.2 p (hF.sub p hp) (by simpa using c)) (partT_in hU.1 hF (hF.sub p hp)) hrow hx
theorem fe_there {S : Tb} {e : Nat} {G : Tb} : ∀ {d : Nat} {F : Tb} {nm : Str}, FolAt d S F nm → FE d F e G → ∃ a, FolAt e S G a
  | 0, _, _, h, _ => h.elim
  | d + 1, F, nm, h, hG => by
    rcases hG with ⟨rfl, rfl⟩ | ⟨r, hr, hf, hG⟩
    · exact ⟨nm, h⟩
    · obtain ⟨is, hP, hl⟩ := fol_open h
      obtain ⟨i, hi, hrow⟩ := paired_r hP r hr
      unfold RowAt at hrow
      rw [if_neg (by rw [hf]; simp)] at hrow
      exact fe_there hrow hG
end Kw


set_option Elab.async false
set_option linter.all false
set_option maxRecDepth 100000
set_option maxHeartbeats 4000000
/-! Pur: a swept store is just what the law's own cutting makes. -/
namespace Kw
open PySem PySem.Spec PyProof.Rows L2 Evl
theorem app_canc {n a b : Str} (h : n ++ a = n ++ b) : a = b := by
  have e := congrArg TL.tl h
  rw [TL.tl_append, TL.tl_append] at e
  exact TL.ext_tl (List.append_cancel_left e)
theorem txt_inj {S : Tb} (wf : WF S) {x y a : Str} (h1 : TxtAt S x a) (h2 : TxtAt S y a) : x = y := by
  obtain ⟨ns, p1, l1⟩ := h1
  obtain ⟨ms, p2, l2⟩ := h2
  rw [l1] at l2
  have e := app_canc (Option.some.inj l2)
  have en : ns = ms := by
    rw [← kids_l wf (names_lk p1), ← kids_l wf (names_lk p2), e]
  subst en
  have go : ∀ {ns cs ds : List Str}, Paired (fun n c => lk S n = some (("p" : Str) ++ c)) ns cs → Paired (fun n c => lk S n = some (("p" : Str) ++ c)) ns ds → cs = ds := fun {ns cs ds} p => by
    induction p generalizing ds with
    | nil => intro q; cases q; rfl
    | cons h1 _ ih =>
      intro q
      cases q with
      | cons h2 q =>
        rw [h1] at h2
        rw [ih q, app_canc (Option.some.inj h2)]
  have ec := go p1 p2
  rw [← join_cuts x, ec, join_cuts y]
def hd1 (x : Str) (a : Str) (c : Nat) : Prop := hdS (a ++ x) = some c
theorem hd_t (x : Str) : hdS (("t" : Str) ++ x) = some 116 := by unfold hdS; rw [TL.tl_append]; rfl
theorem hd_l (x : Str) : hdS (("l" : Str) ++ x) = some 108 := by unfold hdS; rw [TL.tl_append]; rfl
theorem hd_p (x : Str) : hdS (("p" : Str) ++ x) = some 112 := by unfold hdS; rw [TL.tl_append]; rfl
theorem fol_inj {S : Tb} (wf : WF S) : ∀ {d d' : Nat} {F F' : Tb} {nm : Str}, FolOk d F → FolAt d S F nm → FolOk d' F' → FolAt d' S F' nm → can F = can F'
  | 0, _, _, _, _, h, _, _, _ => h.elim
  | _ + 1, 0, _, _, _, _, _, h, _ => h.elim
  | d + 1, d' + 1, F, F', nm, ok, h, ok', h' => by
    obtain ⟨is, hP, hl⟩ := fol_open h
    obtain ⟨js, hP', hl'⟩ := fol_open h'
    rw [hl] at hl'
    have ep := Option.some.inj hl'
    have ei : is = js := by rw [← kids_t wf ok hP, ← kids_t wf ok' hP', ep]
    subst ei
    have ez : ((nms F).zip is).map (fun z => ((z.1.1, z.2) : Str × Str)) = ((nms F').zip is).map fun z => (z.1.1, z.2) := by
      rw [← rows_tpc wf ok hP, ← rows_tpc wf ok' hP', ep]
    have en : (nms F).map Prod.fst = (nms F').map Prod.fst := by
      have e1 : ∀ {G : Tb}, is.length = (nms G).length → (nms G).map Prod.fst = (((nms G).zip is).map fun z => ((z.1.1, z.2) : Str × Str)).map Prod.fst := fun {G} hl => by
        rw [List.map_map]
        conv => lhs; rw [← zip_fst (xs := nms G) (ys := is) hl.symm]
        rw [List.map_map]; rfl
      rw [e1 (Paired.length hP), e1 (Paired.length hP'), ez]
    have go : ∀ {is : List Str} {rs rs' : List (Str × Bool)}, Paired (fun i r => RowAt d S F r i ∧ r ∈ nms F) is rs → Paired (fun i r => RowAt d' S F' r i ∧ r ∈ nms F') is rs' → rs.map Prod.fst = rs'.map Prod.fst → rs.flatMap (backOf F) = rs'.flatMap (backOf F') := fun {is rs rs'} p => by
      induction p generalizing rs' with
      | nil => intro q _; cases q; rfl
      | @cons i r is rs h1 _ ih =>
        intro q e
        cases q with
        | @cons _ r' _ rs' h2 q =>
          rw [List.map_cons, List.map_cons] at e
          injection e with e1 e2
          rw [List.flatMap_cons, List.flatMap_cons, ih q e2]
          congr 1
          obtain ⟨h1, m1⟩ := h1
          obtain ⟨h2, m2⟩ := h2
          obtain ⟨r1, b⟩ := r
          obtain ⟨r2, b'⟩ := r'
          have e1' : r1 = r2 := e1
          subst e1'
          unfold RowAt at h1 h2
          cases b with
          | true =>
            rw [if_pos rfl] at h1
            cases b' with
            | true =>
              rw [if_pos rfl] at h2
              have ex := txt_inj wf h1 h2
              unfold backOf
              rw [if_pos rfl, if_pos rfl]
              show [(r1, (lk F r1).getD "")] = [(r1, (lk F' r1).getD "")]
              rw [show (lk F r1).getD "" = (lk F' r1).getD "" from ex]
            | false =>
              rw [if_neg (by simp)] at h2
              obtain ⟨_, _, l1⟩ := h1
              cases d' with
              | zero => exact h2.elim
              | succ d' =>
                obtain ⟨_, _, l2⟩ := fol_open h2
                rw [l1] at l2
                have z := congrArg hdS (Option.some.inj l2)
                unfold tpc at z
                rw [hd_l, hd_t] at z
                cases z
          | false =>
            rw [if_neg (by simp)] at h1
            cases b' with
            | true =>
              rw [if_pos rfl] at h2
              obtain ⟨_, _, l2⟩ := h2
              cases d with
              | zero => exact h1.elim
              | succ d =>
                obtain ⟨_, _, l1⟩ := fol_open h1
                rw [l1] at l2
                have z := congrArg hdS (Option.some.inj l2)
                unfold tpc at z
                rw [hd_l, hd_t] at z
                cases z
            | false =>
              rw [if_neg (by simp)] at h2
              have ec := fol_inj wf ((ok.2.2.1 _ m1).2.2.2.2.2 rfl) h1 ((ok'.2.2.1 _ m2).2.2.2.2.2 rfl) h2
              unfold backOf
              rw [if_neg (by simp), if_neg (by simp)]
              show (can (partT F r1)).map _ = (can (partT F' r1)).map _
              rw [show can (partT F r1) = can (partT F' r1) from ec]
    have eB := go (paired_with hP fun r hr => hr) (paired_with hP' fun r hr => hr) en
    rw [← ok.2.2.2.2.1, ← ok'.2.2.2.2.1]
    unfold reb
    rw [eB]
theorem fol_fun {S : Tb} (wf : WF S) : ∀ {d d' : Nat} {F F' : Tb} {b b' : Str}, (ks F).Nodup → (ks F').Nodup → can F = can F' → FolAt d S F b → FolAt d' S F' b' → b = b'
  | 0, _, _, _, _, _, _, _, _, h, _ => h.elim
  | _ + 1, 0, _, _, _, _, _, _, _, _, h => h.elim
  | d + 1, d' + 1, F, F', b, b', n1, n2, e, h, h' => by
    obtain ⟨is, hP, hl⟩ := fol_open h
    obtain ⟨js, hP', hl'⟩ := fol_open h'
    have enm : nms F = nms F' := by unfold nms fnd; rw [e]
    have epa : ∀ n, partT F n = partT F' n := fun n => by unfold partT; rw [e]
    have elk : ∀ n, lk F n = lk F' n := fun n => by rw [← lk_can n1, ← lk_can n2, e]
    have go : ∀ {is js : List Str} {rs : List (Str × Bool)}, Paired (fun i r => RowAt d S F r i) is rs → Paired (fun i r => RowAt d' S F' r i) js rs → is = js := fun {is js rs} p => by
      induction p generalizing js with
      | nil => intro q; cases q; rfl
      | @cons i r is rs h1 _ ih =>
        intro q
        cases q with
        | @cons j _ _ _ h2 q =>
          rw [ih q]
          congr 1
          unfold RowAt at h1 h2
          by_cases c : r.2 = true
          · rw [if_pos c] at h1 h2
            rw [elk] at h1
            exact txt_uniq wf h1 h2
          · rw [if_neg c] at h1 h2
            rw [epa] at h1
            have nd : (ks (partT F' r.1)).Nodup := nd_mrg _ [] (by simp [ks])
            exact fol_fun wf nd nd rfl h1 h2
    rw [← enm] at hP'
    have ei := go hP hP'
    subst ei
    refine name_uniq wf hl ?_
    rw [hl']
    unfold tpc
    rw [enm]
theorem le_bij {α β : Type} [DecidableEq β] {R : α → β → Prop} (g : ∀ a a' b, R a b → R a' b → a = a') : ∀ {t : List α} {L : List β}, t.Nodup → (∀ a ∈ t, ∃ b ∈ L, R a b) → t.length ≤ L.length
  | [], _, _, _ => Nat.zero_le _
  | a :: t, L, n, h => by
    have n' : a ∉ t ∧ t.Nodup := List.nodup_cons.mp n
    obtain ⟨b, hb, hR⟩ := h a (List.mem_cons_self ..)
    have z := le_bij g (t := t) (L := L.erase b) n'.2 fun a' ha' => by
      obtain ⟨b', hb', hR'⟩ := h a' (List.mem_cons_of_mem _ ha')
      refine ⟨b', (List.mem_erase_of_ne fun (e : b' = b) => n'.1 ?_).mpr hb', hR'⟩
      rw [e] at hR'
      rw [g a a' b hR hR']
      exact ha'
    rw [List.length_erase_of_mem hb] at z
    have p := List.length_pos_of_mem hb
    show t.length + 1 ≤ L.length
    omega
theorem len_bij {α β : Type} [DecidableEq α] [DecidableEq β] {R : α → β → Prop} {t : List α} {L : List β} (nt : t.Nodup) (nL : L.Nodup) (h1 : ∀ a ∈ t, ∃ b ∈ L, R a b) (h2 : ∀ b ∈ L, ∃ a ∈ t, R a b) (f : ∀ a b b', R a b → R a b' → b = b') (g : ∀ a a' b, R a b → R a' b → a = a') : L.length = t.length :=
  Nat.le_antisymm (le_bij (R := fun b a => R a b) (fun b b' a h h' => f a b b' h h') nL h2) (le_bij g nt h1)
theorem pcs_mem {S : Tb} (n : (ks S).Nodup) {y : Str} : y ∈ pcs S ↔ ∃ a, lk S a = some y := by
  unfold pcs
  rw [List.mem_map]
  constructor
  · rintro ⟨a, ha, rfl⟩
    obtain ⟨x, hx⟩ := mem_ks (mem_sortS.mp ha)
    exact ⟨a, by rw [hx]; rfl⟩
  · rintro ⟨a, ha⟩
    exact ⟨a, mem_sortS.mpr (ks_mem (lk_mem ha)), by rw [ha]; rfl⟩
theorem pcs_nd {S : Tb} (wf : WF S) : (pcs S).Nodup := by
  unfold pcs
  refine nd_map (nd_sortS wf.nd) fun a ha b hb e => ?_
  obtain ⟨x, hx⟩ := mem_ks (mem_sortS.mp ha)
  obtain ⟨y, hy⟩ := mem_ks (mem_sortS.mp hb)
  rw [hx, hy] at e
  have e' : x = y := e
  subst e'
  exact name_uniq wf hx hy
theorem swp_ok {S : Tb} {ts : Tm} {kp : Kp} (wf : WF S) (hks : ks kp = ks ts) (nd : (ks ts).Nodup) (hr : Rooted S ts) (h : ∀ r ∈ kp, LTb r.2.2 ∧ ∀ nm, lk ts r.1 = some nm → FolAt 4 S (can r.2.2) nm) : Swept (swp S ts) kp := by
  have wf' : WF (swp S ts) := wf_sub wf _
  have inU : ∀ r ∈ kp, InU PATHS (can r.2.2) := fun r hr => (ltb_in (h r hr).1).can
  have hv : ∀ r ∈ kp, ∀ x, x ∈ valsF (can r.2.2) ↔ x ∈ valsF r.2.2 := fun r hr x => ((perm_can (h r hr).1.nd).map Prod.snd).mem_iff
  have root : ∀ r ∈ kp, ∃ nm, (r.1, nm) ∈ ts ∧ FolAt 4 S (can r.2.2) nm := fun r hr => by
    have hk : r.1 ∈ ks ts := by rw [← hks]; exact List.mem_map.mpr ⟨r, hr, rfl⟩
    obtain ⟨nm, hnm⟩ := mem_ks hk
    exact ⟨nm, lk_mem hnm, (h r hr).2 nm hnm⟩
  have key : ∀ a, (∃ q ∈ ts, Reach S q.2 a) ↔ ∃ r ∈ kp, Kind S 4 (can r.2.2) a := fun a => by
    constructor
    · rintro ⟨q, hq, ha⟩
      have hk : q.1 ∈ ks kp := by rw [hks]; exact List.mem_map.mpr ⟨q, hq, rfl⟩
      obtain ⟨r, hrk, e⟩ := List.mem_map.mp hk
      have hat := (h r hrk).2 q.2 (by rw [e]; exact lk_of nd hq)
      exact ⟨r, hrk, reach_kind wf paths_all (inU r hrk) hat ha⟩
    · rintro ⟨r, hrk, ha⟩
      obtain ⟨nm, hm, hat⟩ := root r hrk
      exact ⟨_, hm, kind_reach wf paths_all (inU r hrk) hat ha⟩
  have mem : ∀ y, y ∈ pcs (swp S ts) ↔ ∃ a, lk S a = some y ∧ ∃ r ∈ kp, Kind S 4 (can r.2.2) a := fun y => by
    rw [pcs_mem wf'.nd]
    constructor
    · rintro ⟨a, ha⟩
      obtain ⟨h1, h2⟩ := (swp_lk wf hr).mp ha
      exact ⟨a, h1, (key a).mp h2⟩
    · rintro ⟨a, h1, h2⟩
      exact ⟨a, (swp_lk wf hr).mpr ⟨h1, (key a).mpr h2⟩⟩
  have sort : ∀ {a y : Str} {F : Tb}, lk S a = some y → Kind S 4 F a → (hdS y = some 116 ∧ ∃ e G, FE 4 F e G ∧ FolAt e S G a) ∨ (hdS y = some 108 ∧ ∃ x ∈ valsF F, TxtAt S x a) ∨ (hdS y = some 112 ∧ ∃ x ∈ valsF F, ∃ c ∈ cutsS x, y = ("p" : Str) ++ c) := fun {a y F} hy hk => by
    rcases hk with ⟨e, G, hG, hat⟩ | ⟨x, hx, hat⟩ | ⟨x, hx, c, hc, hat⟩
    · refine .inl ⟨?_, e, G, hG, hat⟩
      cases e with
      | zero => exact hat.elim
      | succ e =>
        obtain ⟨is, _, hl⟩ := fol_open hat
        rw [hl] at hy
        rw [← Option.some.inj hy]
        exact hd_t _
    · refine .inr (.inl ⟨?_, x, hx, hat⟩)
      obtain ⟨names, _, hl⟩ := hat
      rw [hl] at hy
      rw [← Option.some.inj hy]
      exact hd_l _
    · rw [hat] at hy
      have e := (Option.some.inj hy).symm
      exact .inr (.inr ⟨by rw [e]; exact hd_p _, x, hx, c, hc, e⟩)
  refine ⟨fun y hy => ?_, pcs_nd wf', fun y => ⟨?_, ?_⟩, fun t nt ht => ?_, fun t nt ht => ?_⟩
  · obtain ⟨a, ha, r, hrk, hk⟩ := (mem y).mp hy
    rcases sort ha hk with ⟨z, _⟩ | ⟨z, _⟩ | ⟨z, _⟩ <;> exact ⟨_, z⟩
  · rintro ⟨hy, hh⟩
    obtain ⟨a, ha, r, hrk, hk⟩ := (mem y).mp hy
    rcases sort ha hk with ⟨z, _⟩ | ⟨z, _⟩ | ⟨z, x, hx, c, hc, e⟩
    · rw [hh] at z; cases z
    · rw [hh] at z; cases z
    · exact ⟨r, hrk, x, (hv r hrk x).mp hx, c, hc, e⟩
  · rintro ⟨r, hrk, x, hx, c, hc, rfl⟩
    have hx' := (hv r hrk x).mpr hx
    obtain ⟨nm, _, hat⟩ := root r hrk
    obtain ⟨a, hta⟩ := txt_there paths_all (inU r hrk) hat hx'
    obtain ⟨names, hP, hl⟩ := hta
    obtain ⟨n, _, hn⟩ := paired_r hP c hc
    exact ⟨(mem _).mpr ⟨n, hn, r, hrk, .inr (.inr ⟨x, hx', c, hc, hn⟩)⟩, hd_p c⟩
  · refine len_bij (R := fun x y => ∃ a, TxtAt S x a ∧ lk S a = some y) nt ((pcs_nd wf').filter _) (fun x hx => ?_) (fun y hy => ?_) (fun x y y' ⟨a, h1, h2⟩ ⟨b, h3, h4⟩ => ?_) (fun x x' y ⟨a, h1, h2⟩ ⟨b, h3, h4⟩ => ?_)
    · obtain ⟨r, hrk, hx⟩ := (ht x).mp hx
      have hx' := (hv r hrk x).mpr hx
      obtain ⟨nm, _, hat⟩ := root r hrk
      obtain ⟨a, hta⟩ := txt_there paths_all (inU r hrk) hat hx'
      obtain ⟨names, hP, hl⟩ := id hta
      exact ⟨_, List.mem_filter.mpr ⟨(mem _).mpr ⟨a, hl, r, hrk, .inr (.inl ⟨x, hx', hta⟩)⟩, decide_eq_true (hd_l _)⟩, a, hta, hl⟩
    · obtain ⟨hy1, hy2⟩ := List.mem_filter.mp hy
      have hh := of_decide_eq_true hy2
      obtain ⟨a, ha, r, hrk, hk⟩ := (mem y).mp hy1
      rcases sort ha hk with ⟨z, _⟩ | ⟨z, x, hx, hta⟩ | ⟨z, _⟩
      · rw [hh] at z; cases z
      · exact ⟨x, (ht x).mpr ⟨r, hrk, (hv r hrk x).mp hx⟩, a, hta, ha⟩
      · rw [hh] at z; cases z
    · have e := txt_uniq wf h1 h3
      rw [e, h4] at h2
      exact (Option.some.inj h2).symm
    · have e := name_uniq wf h2 h4
      rw [e] at h1
      exact txt_inj wf h1 h3
  · refine len_bij (R := fun G y => ∃ a e F', FolOk e F' ∧ (ks F').Nodup ∧ G = can F' ∧ FolAt e S F' a ∧ lk S a = some y) nt ((pcs_nd wf').filter _) (fun G hG => ?_) (fun y hy => ?_) (fun G y y' ⟨a, e, F, _, n1, g1, h1, h2⟩ ⟨b, e', F', _, n2, g2, h3, h4⟩ => ?_) (fun G G' y ⟨a, e, F, o1, _, g1, h1, h2⟩ ⟨b, e', F', o2, _, g2, h3, h4⟩ => ?_)
    · obtain ⟨r, hrk, hG⟩ := (ht G).mp hG
      obtain ⟨e, F', hE, hc⟩ := fd_fe.mp ((ltb_fd (h r hrk).1).mp hG)
      obtain ⟨nm, _, hat⟩ := root r hrk
      obtain ⟨a, hfa⟩ := fe_there hat hE
      obtain ⟨V, hV, hGV⟩ := fe_in paths_all (inU r hrk) hE
      have ok := (fol_of _ _ _ hV hGV).1
      cases e with
      | zero => exact hfa.elim
      | succ e =>
        obtain ⟨is, hP, hl⟩ := fol_open hfa
        exact ⟨_, List.mem_filter.mpr ⟨(mem _).mpr ⟨a, hl, r, hrk, .inl ⟨_, F', hE, hfa⟩⟩, decide_eq_true (hd_t _)⟩, a, _, F', ok, hGV.nd, hc, hfa, hl⟩
    · obtain ⟨hy1, hy2⟩ := List.mem_filter.mp hy
      have hh := of_decide_eq_true hy2
      obtain ⟨a, ha, r, hrk, hk⟩ := (mem y).mp hy1
      rcases sort ha hk with ⟨z, e, G, hE, hfa⟩ | ⟨z, _⟩ | ⟨z, _⟩
      · obtain ⟨V, hV, hGV⟩ := fe_in paths_all (inU r hrk) hE
        exact ⟨can G, (ht _).mpr ⟨r, hrk, (ltb_fd (h r hrk).1).mpr (fd_fe.mpr ⟨e, G, hE, rfl⟩)⟩, a, e, G, (fol_of _ _ _ hV hGV).1, hGV.nd, rfl, hfa, ha⟩
      · rw [hh] at z; cases z
      · rw [hh] at z; cases z
    · have e := fol_fun wf n1 n2 (g1.symm.trans g2) h1 h3
      rw [e, h4] at h2
      exact (Option.some.inj h2).symm
    · have e := name_uniq wf h2 h4
      rw [e] at h1
      rw [g1, g2]
      exact fol_inj wf o1 h1 o2 h3
end Kw


set_option Elab.async false
set_option linter.all false
set_option maxRecDepth 100000
set_option maxHeartbeats 4000000
/-! Law11: the law. -/
namespace Kw
open PySem PySem.Spec PyProof.Rows L2 Evl
local macro_rules
  | `(tactic| walk_at "hp") => `(tactic| first
      | exact prp (by assumption)
      | exact rfl
      | exact upd_same
      | ((with_reducible apply sq_of); first | assumption | exact upd_same)
      | ((with_reducible apply st_of); first | assumption | exact upd_same)
      | ((with_reducible apply rd_of); first | assumption | exact upd_same)
      | ((with_reducible apply ex_l); assumption; walk_at "hp")
      | ((with_reducible apply ex_t); assumption; walk_at "hp")
      | ((with_reducible apply ex_rd); assumption; walk_at "hp")
      | ((with_reducible apply ex_at); assumption; walk_at "hp")
      | ((with_reducible apply Or.inl); walk_at "hp")
      | ((with_reducible apply Or.inr); walk_at "hp")
      | ((with_reducible apply LenD.lst); walk_at "hp")
      | ((with_reducible apply LenD.tup); walk_at "hp")
      | ((with_reducible apply LenD.dic); walk_at "hp")
      | ((with_reducible apply LenD.str); walk_at "hp")
      | ((with_reducible apply mulR); decide)
      | ((with_reducible apply mulL); decide)
      | decide
      | omega)
local macro_rules
  | `(tactic| walk_at "ev") => `(tactic| ((fail_if_success (with_reducible apply ev_bad)); (fail_if_success (with_reducible apply et_bad)); (fail_if_success (with_reducible apply ea_bad)); (fail_if_success (with_reducible apply en_bad)); first
      | ((with_reducible apply ev_var); exact rfl)
      | (with_reducible exact ev_c)
      | (with_reducible exact ea_nil)
      | (with_reducible exact eo_none)
      | ((with_reducible apply eo_some) <;> try walk_at "ev")
      | ((with_reducible apply ea_cons) <;> try walk_at "ev")
      | ((with_reducible apply ev_inTup) <;> try walk_at "ev")
      | ((with_reducible apply ev_niTup) <;> try walk_at "ev")
      | ((with_reducible apply ev_ixP) <;> try walk_at "ev")
      | (with_reducible exact rv_isN)
      | (with_reducible exact rv_notN)
      | ((with_reducible apply ev_op) <;> try walk_at "ev")
      | (with_reducible exact rv_I0)
      | ((with_reducible apply rv_I) <;> try walk_at "hp")
      | ((with_reducible apply rv_eq); exact rfl)
      | ((with_reducible apply rv_ne); exact rfl)
      | ((with_reducible apply rv_addS) <;> try walk_at "hp")
      | ((with_reducible apply rv_ixL); walk_at "hp"; walk_at "hp")
      | ((with_reducible apply rv_ixT); walk_at "hp"; walk_at "hp")
      | ((with_reducible apply ev_cb) <;> try walk_at "ev")
      | ((with_reducible apply rc_len); walk_at "hp")
      | (with_reducible exact rc_ord)
      | ((with_reducible apply rc_str) <;> try walk_at "hp")
      | (with_reducible exact rc_int)
      | (with_reducible exact rc_intB)
      | (with_reducible exact rc_abs)
      | (with_reducible exact rc_max2)
      | (with_reducible exact rc_min2)
      | ((with_reducible apply ev_joinN) <;> try walk_at "ev")
      | ((with_reducible apply ev_m1) <;> try walk_at "ev")
      | ((with_reducible apply rm_strip) <;> try walk_at "hp")
      | (with_reducible exact rm_starts)
      | ((with_reducible apply rm_join) <;> try walk_at "hp")
      | ((with_reducible apply ev_slS) <;> try walk_at "ev")
      | ((with_reducible apply ev_dget) <;> try walk_at "ev")
      | ((with_reducible apply ev_din) <;> try walk_at "ev")
      | ((with_reducible apply ev_dnotin) <;> try walk_at "ev")
      | ((with_reducible apply ev_fld) <;> try walk_at "ev")
      | ((with_reducible apply et_test) <;> try walk_at "ev")
      | ((with_reducible apply et_B) <;> try walk_at "ev")
      | ((with_reducible apply et_and) <;> try walk_at "ev")
      | ((with_reducible apply et_or) <;> try walk_at "ev")
      | ((with_reducible apply et_not) <;> try walk_at "ev")
      | (with_reducible exact en_dnew)
      | (with_reducible exact et_yes)
      | ((with_reducible apply ex_tup) <;> try walk_at "ev")
      | ((with_reducible apply en_slL) <;> try walk_at "ev")
      | ((with_reducible apply en_split) <;> try walk_at "ev")
      | ((with_reducible apply en_part) <;> try walk_at "ev")
      | walk_at "hp"
      | ((with_reducible refine fun hb => ?_); try walk_at "ev")))
local macro_rules
  | `(tactic| walk_at "lcf") => `(tactic| first
      | (intro _ _ _ _ _; exact rfl)
      | (intro _ _ _ _ _; dsimp only [Cx.blk]; done)
      | (intro _ _ _ _ _; dsimp only [Cx.blk]; exact rfl))
/-- what stands where, in the law's loop -/
structure LH (CD CS P0 P1 : Addr) (H : Hp) (p dc dy st d tm kd tb : Addr) (S : Tb) (ts : Tm) (kp : Kp) (G : Tb) : Prop where
  lst : H p = some (.lst [.ref dc])
  di : Dice dc H
  da : DayAt CD CS dy st d tm H S ts
  kda : H kd = some (.dK (tKp kp))
  kd1 : d ≠ kd
  kd2 : tm ≠ kd
  row : ∀ r ∈ kp, H r.2.1 = some (.dK (tD r.2.2)) ∧ r.2.1 ≠ kd ∧ r.2.1 ≠ d ∧ r.2.1 ≠ tm
  tba : H tb = some (.dK (tD G))
  tb1 : tb ≠ kd ∧ tb ≠ d ∧ tb ≠ tm
  tab : Tab P0 H
  tbs : LamX.TabS H P1 LQ
section
variable {CD CS P0 P1 : Addr} {H H' : Hp} {p dc dy st d tm kd tb : Addr} {S S' : Tb} {ts ts' : Tm} {kp kp' : Kp} {G : Tb}
theorem LH.step (L : LH CD CS P0 P1 H p dc dy st d tm kd tb S ts kp G) (ex : Exn [dc, d, tm, kd] H H') (di : Dice dc H') (hd : H' d = some (.dK (tD S'))) (htm : H' tm = some (.dK (tM ts'))) (hkd : H' kd = some (.dK (tKp kp'))) (tbs : LamX.TabS H' P1 LQ)
    (sub : ∀ r ∈ kp', (∃ r0 ∈ kp, r0.2 = r.2) ∨ r.2 = (tb, G)) : LH CD CS P0 P1 H' p dc dy st d tm kd tb S' ts' kp' G := by
  have hd0 := L.da.sto.2
  have htm0 := L.da.tim
  have st' : ∀ {a : Addr} {o : HO}, H a = some o → (∀ es, o ≠ .dK es) → (∀ x y z : Int, o ≠ .lst [.int x, .int y, .int z]) → (∀ ps, o ≠ .tbl ps) → H' a = some o := fun {a o} ha h1 h2 h3 => by
    refine ex a o (fun z => ?_) ha h3
    rcases List.mem_cons.mp z with rfl | z
    · obtain ⟨x, y, w, g⟩ := L.di
      rw [g] at ha
      cases ha
      exact h2 _ _ _ rfl
    rcases List.mem_cons.mp z with rfl | z
    · rw [hd0] at ha; cases ha; exact h1 _ rfl
    rcases List.mem_cons.mp z with rfl | z
    · rw [htm0] at ha; cases ha; exact h1 _ rfl
    · rw [List.mem_singleton.mp z, L.kda] at ha; cases ha; exact h1 _ rfl
  have dic : ∀ {a : Addr} {kvs : List (Key × V)}, H a = some (.dK kvs) → a ≠ kd → a ≠ d → a ≠ tm → H' a = some (.dK kvs) := fun {a kvs} ha h1 h2 h3 => by
    refine ex a _ (fun z => ?_) ha fun _ => by simp
    rcases List.mem_cons.mp z with rfl | z
    · obtain ⟨x, y, w, g⟩ := L.di
      rw [g] at ha
      cases ha
    rcases List.mem_cons.mp z with rfl | z
    · exact h2 rfl
    rcases List.mem_cons.mp z with rfl | z
    · exact h3 rfl
    · exact h1 (List.mem_singleton.mp z)
  obtain ⟨dx, hy⟩ := L.da.day
  obtain ⟨dx2, hs⟩ := L.da.sto.1
  refine ⟨st' L.lst (fun _ => by simp) (fun _ _ _ => by simp) fun _ => by simp, di, ⟨⟨dx, st' hy (fun _ => by simp) (fun _ _ _ => by simp) fun _ => by simp⟩, ⟨⟨dx2, st' hs (fun _ => by simp) (fun _ _ _ => by simp) fun _ => by simp⟩, hd⟩, htm, L.da.ne⟩, hkd, L.kd1, L.kd2, fun r hr => ?_, dic L.tba L.tb1.1 L.tb1.2.1 L.tb1.2.2, L.tb1, st' L.tab (fun _ => by simp) (fun _ _ _ => by simp) fun _ => by simp, tbs⟩
  rcases sub r hr with ⟨r0, h0, e⟩ | e
  · rw [← e]
    obtain ⟨a, b, c, f⟩ := L.row r0 h0
    exact ⟨dic a b c f, b, c, f⟩
  · rw [e]
    exact ⟨dic L.tba L.tb1.1 L.tb1.2.1 L.tb1.2.2, L.tb1⟩
theorem LH.mt (L : LH CD CS P0 P1 H p dc dy st d tm kd tb S ts kp G) (m : Mt dc P1 LQ H H') : LH CD CS P0 P1 H' p dc dy st d tm kd tb S ts kp G := by
  have ne : ∀ {a : Addr} {kvs : List (Key × V)}, H a = some (.dK kvs) → H' a = some (.dK kvs) := fun ha => m.at ha (dice_ne L.di ha fun _ _ _ => by simp) fun _ => by simp
  exact L.step (fun a o n h t => m.ex a o (fun z => n (by simp [List.mem_singleton.mp z])) h t) m.di (ne L.da.sto.2) (ne L.da.tim) (ne L.kda) m.tb fun r hr => .inl ⟨r, hr, rfl⟩
theorem LH.ex (L : LH CD CS P0 P1 H p dc dy st d tm kd tb S ts kp G) (e : Ex H H') : LH CD CS P0 P1 H' p dc dy st d tm kd tb S ts kp G := L.mt (mt_of L.di L.tbs e)
theorem LH.mv (L : LH CD CS P0 P1 H p dc dy st d tm kd tb S ts kp G) (m : Mv dc H H') : LH CD CS P0 P1 H' p dc dy st d tm kd tb S ts kp G := L.mt ⟨exn_of m.ex, m.di, tab_mv L.di m.ex L.tbs⟩
theorem LH.newtb {tb' : Addr} {G' : Tb} (L : LH CD CS P0 P1 H p dc dy st d tm kd tb S ts kp G) (hn : H tb' = none) (m : Mv dc H H') (h : H' tb' = some (.dK (tD G'))) : LH CD CS P0 P1 H' p dc dy st d tm kd tb' S ts kp G' := by
  have L' := L.mv m
  have nn : ∀ {b : Addr} {o : HO}, H b = some o → tb' ≠ b := fun h z => by rw [z, h] at hn; cases hn
  exact { L' with tba := h, tb1 := ⟨nn L.kda, nn L.da.sto.2, nn L.da.tim⟩ }
theorem LH.newkd {kd' : Addr} {ds : List Addr} (L : LH CD CS P0 P1 H p dc dy st d tm kd tb S ts kp G) (hn : H kd' = none) (e : Ex H H') (h : H' kd' = some (.dK (tKp kp'))) (sub : ∀ r ∈ kp', r ∈ kp) : LH CD CS P0 P1 H' p dc dy st d tm kd' tb S ts kp' G := by
  have L' := L.ex e
  have nn : ∀ {b : Addr} {o : HO}, H b = some o → b ≠ kd' := fun h z => by rw [z, hn] at h; cases h
  exact { L' with kda := h, kd1 := nn L.da.sto.2, kd2 := nn L.da.tim, row := fun r hr => ⟨(L'.row r (sub r hr)).1, nn (L.row r (sub r hr)).1, (L'.row r (sub r hr)).2.2⟩, tb1 := ⟨nn L.tba, L'.tb1.2⟩ }
/-- tables of code objects stay where some dicts change -/
theorem tab_ds {ds : List Addr} {P1 : Addr} {q : Str} {H H' : Hp} (hd : ∀ x ∈ ds, ∃ kvs, H x = some (.dK kvs)) (m : Exs ds H H') (t : LamX.TabS H P1 q) : LamX.TabS H' P1 q := by
  obtain ⟨ps, h1, h2, h3⟩ := t
  have n : ∀ {a : Addr} {o : HO}, H a = some o → (∀ es, o ≠ .dK es) → a ∉ ds := fun {a o} ha hn z => by
    obtain ⟨kvs, g⟩ := hd a z
    rw [g] at ha
    cases ha
    exact hn _ rfl
  refine ⟨ps, m _ _ (n h1 fun _ => by simp) h1, h2, fun pos cv hc => ?_⟩
  obtain ⟨c, e1, e2⟩ := h3 pos cv hc
  exact ⟨c, e1, m _ _ (n e2 fun _ => by simp [LamX.CodeO]) e2⟩
theorem tab_dd {dc d : Addr} {P1 : Addr} {q : Str} {H H' : Hp} {kvs : List (Key × V)} (hc : Dice dc H) (hd : H d = some (.dK kvs)) (m : Exs [dc, d] H H') (t : LamX.TabS H P1 q) : LamX.TabS H' P1 q := by
  obtain ⟨ps, h1, h2, h3⟩ := t
  obtain ⟨x, y, z, g⟩ := hc
  have n : ∀ {a : Addr} {o : HO}, H a = some o → (∀ es, o ≠ .dK es) → (∀ es, o ≠ .lst es) → a ∉ [dc, d] := fun {a o} ha hn hl w => by
    rcases List.mem_cons.mp w with rfl | w
    · rw [g] at ha; cases ha; exact hl _ rfl
    · rw [List.mem_singleton.mp w, hd] at ha; cases ha; exact hn _ rfl
  refine ⟨ps, m _ _ (n h1 (fun _ => by simp) fun _ => by simp) h1, h2, fun pos cv hc => ?_⟩
  obtain ⟨c, e1, e2⟩ := h3 pos cv hc
  exact ⟨c, e1, m _ _ (n e2 (fun _ => by simp [LamX.CodeO]) fun _ => by simp [LamX.CodeO]) e2⟩
end
/-- what is true of the days kept -/
structure LP (S : Tb) (ts : Tm) (kp : Kp) (n : Nat) (time : Int) : Prop where
  wf : WF S
  sz : S.length ≤ n * 2500
  hks : ks kp = ks ts
  nd : (ks ts).Nodup
  len : ts.length ≤ n
  tim : ∀ t ∈ ks ts, 0 < t ∧ t ≤ time
  row : ∀ r ∈ kp, LTb r.2.2 ∧ ∀ nm, lk ts r.1 = some nm → FolAt 4 S (can r.2.2) nm
theorem LP.rooted {S : Tb} {ts : Tm} {kp : Kp} {n : Nat} {time : Int} (L : LP S ts kp n time) : Rooted S ts := fun r hr => by
  have hk : r.1 ∈ ks kp := by rw [L.hks]; exact List.mem_map.mpr ⟨r, hr, rfl⟩
  obtain ⟨r0, h0, e0⟩ := List.mem_map.mp hk
  have h1 := (L.row r0 h0).2 r.2 (by rw [e0]; exact lk_of L.nd hr)
  obtain ⟨_, h2, h3, _⟩ := ltb_ok (L.row r0 h0).1
  exact rooted_of L.wf h2 h3 h1
theorem LP.nil : LP [] [] [] 0 0 := ⟨⟨List.nodup_nil, List.nodup_nil, fun _ h => (nomatch h), fun _ h => (nomatch h), Nat.zero_le _⟩, Nat.zero_le _, rfl, List.nodup_nil, Nat.zero_le _, fun _ h => (nomatch h), fun _ h => (nomatch h)⟩
theorem LP.fresh {S : Tb} {ts : Tm} {kp : Kp} {n : Nat} {time t2 : Int} (L : LP S ts kp n time) (h : time < t2) : t2 ∉ ks ts := fun z => by
  have := (L.tim _ z).2
  omega
theorem LP.keep {S S2 : Tb} {ts : Tm} {kp : Kp} {n : Nat} {time t2 : Int} {G : Tb} {tb : Addr} {nm : Str} (L : LP S ts kp n time) (ok : LTb G) (wf2 : WF S2) (gr : Grow S S2) (sz2 : S2.length ≤ S.length + cst 4 (can G)) (at2 : FolAt 4 S2 (can G) nm) (ht : time < t2) (h0 : 0 ≤ time) :
    LP S2 (ts ++ [(t2, nm)]) (kp ++ [(t2, (tb, G))]) (n + 1) t2 := by
  have hf := L.fresh ht
  refine ⟨wf2, ?_, ?_, ?_, ?_, fun t h => ?_, fun r hr => ?_⟩
  · have := (ltb_ok ok).2.2.1
    have := L.sz
    omega
  · have := L.hks
    unfold ks at *
    rw [List.map_append, List.map_append, this]; rfl
  · have := L.nd
    unfold ks at *
    rw [List.map_append, List.nodup_append]
    refine ⟨this, by simp, fun x hx y hy e => ?_⟩
    obtain rfl : y = t2 := by simpa using hy
    exact hf (e ▸ hx)
  · rw [List.length_append]; have := L.len; simp; omega
  · unfold ks at h
    rw [List.map_append] at h
    rcases List.mem_append.mp h with h | h
    · have := L.tim t h
      omega
    · rw [List.mem_singleton.mp h]
      show 0 < t2 ∧ t2 ≤ t2
      omega
  · rcases List.mem_append.mp hr with hr | hr
    · refine ⟨(L.row r hr).1, fun nm' h => ?_⟩
      have hk : r.1 ∈ ks ts := by rw [← L.hks]; exact List.mem_map.mpr ⟨r, hr, rfl⟩
      rw [lk_append] at h
      obtain ⟨v, hv⟩ := mem_ks hk
      rw [hv] at h
      exact ((L.row r hr).2 nm' (by rw [hv]; exact h)).grow gr
    · rw [List.mem_singleton.mp hr]
      refine ⟨ok, fun nm' h => ?_⟩
      rw [lk_append, lk_none.mpr hf, lk_cons] at h
      simp at h
      rw [← h]
      exact at2
theorem LP.sweep {S : Tb} {ts : Tm} {kp : Kp} {n : Nat} {time : Int} (L : LP S ts kp n time) : LP (swp S ts) ts kp n time :=
  ⟨wf_sub L.wf _, Nat.le_trans (List.length_filter_le _ _) L.sz, L.hks, L.nd, L.len, L.tim, fun r hr => ⟨(L.row r hr).1, fun nm h => swp_at L.wf (ltb_ok (L.row r hr).1).2.1 L.rooted (lk_mem h) ((L.row r hr).2 nm h)⟩⟩
theorem LP.perm {S S' : Tb} {ts : Tm} {kp : Kp} {n : Nat} {time : Int} (L : LP S ts kp n time) (p : S'.Perm S) : LP S' ts kp n time :=
  ⟨wf_perm L.wf p, by rw [p.length_eq]; exact L.sz, L.hks, L.nd, L.len, L.tim, fun r hr => ⟨(L.row r hr).1, fun nm h => ((L.row r hr).2 nm h).grow fun a x hx => by rw [lk_perm L.wf.nd p]; exact hx⟩⟩
theorem ks_filter {β : Type} (t : List (Int × β)) (f : Int → Bool) : ks (t.filter fun r => f r.1) = (ks t).filter f := by
  unfold ks
  rw [List.filter_map]; rfl
theorem LP.forget {S : Tb} {ts : Tm} {kp : Kp} {n : Nat} {time : Int} (L : LP S ts kp n time) (gs : List Int) : LP S (ts.filter fun r => decide (r.1 ∉ gs)) (kp.filter fun r => decide (r.1 ∉ gs)) n time := by
  have e1 := ks_filter ts fun t => decide (t ∉ gs)
  have e2 := ks_filter kp fun t => decide (t ∉ gs)
  have nd' : (ks (ts.filter fun r => decide (r.1 ∉ gs))).Nodup := by rw [e1]; exact L.nd.filter _
  refine ⟨L.wf, L.sz, by rw [e1, e2, L.hks], nd', Nat.le_trans (List.length_filter_le _ _) L.len, fun t h => L.tim t (by rw [e1] at h; exact (List.mem_filter.mp h).1), fun r hr => ⟨(L.row r (List.mem_filter.mp hr).1).1, fun nm h => (L.row r (List.mem_filter.mp hr).1).2 nm ?_⟩⟩
  exact lk_of L.nd (List.mem_filter.mp (lk_mem h)).1
theorem LP.swept {S : Tb} {ts : Tm} {kp : Kp} {n : Nat} {time : Int} (L : LP S ts kp n time) : Swept (swp S ts) kp := swp_ok L.wf L.hks L.nd L.rooted L.row
theorem LH.sweep {CD CS P0 P1 : Addr} {H H' : Hp} {p dc dy st d tm kd tb : Addr} {S S' : Tb} {ts : Tm} {kp : Kp} {G : Tb} (L : LH CD CS P0 P1 H p dc dy st d tm kd tb S ts kp G) (ex : Exs [d] H H') (da : DayAt CD CS dy st d tm H' S' ts) : LH CD CS P0 P1 H' p dc dy st d tm kd tb S' ts kp G :=
  L.step (exn_of (ex.mono (by simp))) (by
    obtain ⟨x, y, z, g⟩ := L.di
    exact ⟨x, y, z, ex _ _ (by simpa using fun q : dc = d => by rw [q, L.da.sto.2] at g; cases g) g⟩) da.sto.2 da.tim (ex _ _ (by simpa using Ne.symm L.kd1) L.kda) (tab_ds (all1 ⟨_, L.da.sto.2⟩) ex L.tbs) fun r hr => .inl ⟨r, hr, rfl⟩
theorem en_kInt {β : Type} (vb : β → V) (t : List (Int × β)) : (en Sum.inl vb t).map (fun kv => kV kv.1) = (ks t).map V.int := by
  unfold en ks
  rw [List.map_map, List.map_map]; rfl
section
variable {σ : L2.St} {H : Hp} {te ta : TE} {K : PySem.W.Frag}
/-- days.sweep(), then the law's look at it -/
theorem sweep_use {CD CS P0 P1 : Addr} {p dc dy st d tm kd tb : Addr} {S : Tb} {ts : Tm} {kp : Kp} {G : Tb} {n : Nat} {time : Int} {E : XK} {Q : VK} (ho : Ev ta σ H (.ref dy)) (L : LH CD CS P0 P1 H p dc dy st d tm kd tb S ts kp G) (M : LP S ts kp n time) (hn : n ≤ 1000)
    (q : ∀ v H', LH CD CS P0 P1 H' p dc dy st d tm kd tb (swp S ts) ts kp G → Q v H') : tMeth CD "sweep" (spSweep CD CS) [] E ta tNil σ H Q := by
  obtain ⟨dx, hy⟩ := L.da.day
  exact mt_use (vs := []) ho hy rfl ea_nil fun H1 e1 => ⟨dy, st, d, tm, S, ts, rfl, L.da.ex e1, M.wf, by have := M.len; omega, M.nd, M.rooted, fun v H2 ex da => q v H2 ((L.ex e1).sweep ex da)⟩
theorem swept_use {CD CS P0 P1 : Addr} {p dc dy st d tm kd tb : Addr} {S : Tb} {ts : Tm} {kp : Kp} {G : Tb} {n : Nat} {time : Int} {E : XK} {Q : VK} {t1 t2 : TE} (h1 : Ev t1 σ H (.ref dy)) (h2 : Ev t2 σ H (.ref kd)) (L : LH CD CS P0 P1 H p dc dy st d tm kd tb (swp S ts) ts kp G) (M : LP S ts kp n time) (hn : n ≤ 16)
    (q : ∀ H', LH CD CS P0 P1 H' p dc dy st d tm kd tb (swp S ts) ts kp G → Q (.bl true) H') : tCall (spLawSwept CD CS) [] E (tCons t1 (tCons t2 tNil)) σ H Q :=
  cl_use (vs := [.ref dy, .ref kd]) (ea_cons h1 (ea_cons h2 ea_nil)) fun H1 e1 => ⟨dy, st, d, tm, kd, swp S ts, ts, kp, rfl, L.da.ex e1, M.sweep.wf, rd_of (e1 _ _ L.kda), fun r hr => rd_of (e1 _ _ (L.row r hr).1), fun r hr => ⟨(L.row r hr).2.1, (M.row r hr).1, (ltb_ok (M.row r hr).1).2.2.2⟩, by rw [M.hks]; exact M.nd, by
    have z : (ks kp).length = (ks ts).length := by rw [M.hks]
    unfold ks at z
    rw [List.length_map, List.length_map] at z
    have := M.len
    omega, M.swept, fun H2 e2 => q H2 ((L.ex e1).ex e2)⟩
theorem en_goes2 {q : Addr} {x0 x1 x2 x3 : Int} {ts : List Int} {E : XK} {t1 t2 : TE} (h1 : Ev t1 σ H (.ref q)) (hq : SqL K H q [.int x0, .int x1, .int x2, .int x3]) (h2 : EvN t2 σ H (.lst (ts.map V.int))) (nd : ts.Nodup) (hl : ts.length ≤ 100) (a0 : 0 ≤ x0) (a1 : 0 ≤ x1) (a2 : 0 ≤ x2) (a3 : 0 ≤ x3) :
    EvN (tCall (spN (sLawGoes K)) [] E (tCons t1 (tCons t2 tNil))) σ H (.lst ((goesL x0 x1 x2 x3 ts).map V.int)) := fun H1 e Q k =>
  cl_use2 (ev_mono h1 e) (h2.mono e) fun l H2 hl' e2 h => ⟨_, ⟨q, l, x0, x1, x2, x3, ts, rfl, ex_l (e.trans e2) hq, sq_of h, nd, hl, a0, a1, a2, a3, rfl⟩, fun p H3 hp e3 h3 => k p H3 (fresh_back e2 hp) (e2.trans e3) h3⟩
theorem goes_sorted (x0 x1 x2 x3 : Int) (ts : List Int) : sortI (goesL x0 x1 x2 x3 ts) = goesL x0 x1 x2 x3 ts := sortI_of_sorted ((sortI_sorted ts).filter _)
theorem goes_nd {x0 x1 x2 x3 : Int} {ts : List Int} (n : ts.Nodup) : (goesL x0 x1 x2 x3 ts).Nodup := (nd_sortI n).filter _
theorem goes_sub {x0 x1 x2 x3 : Int} {ts : List Int} : ∀ g ∈ goesL x0 x1 x2 x3 ts, g ∈ ts := fun g h => mem_sortI.mp (List.mem_filter.mp h).1
/-- name = C(..).m(..) -/
theorem q_makeM {C CR : Addr} {m : Str} {sp spR : Sp} {E E2 : XK} {dvs dv2 : List V} {ta2 tb2 : TA} {i : Nat} {tz : TS} {D : Ends} {vs : List V} (h : EvA ta2 σ H vs)
    (q : ∀ H1, Ex H H1 → ∀ x dx, H1 x = none → H1 dx = none → dx ≠ x → spR (.ref x :: (vs ++ dv2)) (upd (upd H1 dx (.own x)) x (.ins CR dx [])) (fun v H2 => v = .non ∧ ∃ a dx fs, V.ref x = .ref a ∧ H2 a = some (.ins C dx fs) ∧ fs.lookup m = none ∧ tb2 σ H2 fun us H3 => sp (.ref x :: (us ++ dvs)) H3 (fun v H4 => tz D (σ.set i (some v)) H4) E) E2) :
    tSeq (tAsg (tMeth C m sp dvs E (tMake CR spR dv2 E2 ta2) tb2) (gName i)) tz D σ H := h H (Ex.refl H) _ fun H1 e => q H1 e
/-- behind an if, by what is true there -/
theorem q_ifM {t : TT} {A B R : TS} {D : Ends} (P : L2.St → Hp → Prop) (hfin : ∀ σ' H', P σ' H' → R D σ' H') (h : (∀ σ' H', P σ' H' → R D σ' H') → tSeq (tIfS t A B) R D σ H) : tSeq (tIfS t A B) R D σ H := h hfin
theorem ev_eqIN {p : Addr} {xs ys : List Int} (h1 : Ev ta σ H (.ref p)) (hp : SqL K H p (xs.map V.int)) (h2 : EvN te σ H (.lst (ys.map V.int))) : Ev (tOp (rEqP K) ta te) σ H (.bl (decide (xs = ys))) := fun H1 e Q q =>
  h1 H1 e _ fun H2 e2 => h2 H2 (e.trans e2) _ fun r H3 _ e3 hr => ⟨_, _, dpl_flat (ex_l ((e.trans e2).trans e3) hp) (flat_ints' xs), dpl_flat (sq_of hr) (flat_ints' ys), plain_lst _, plain_lst _, depth_lst _, by
    rw [PyData.eqv, eqvAll_ints]
    exact q H3 (e2.trans e3)⟩
theorem g_red {i : Nat} {v : V} {Q : L2.St → Hp → Prop} (h : Q (σ.set i (some v)) H) : gName i v σ H Q := h
theorem ev_lenTN {xs : List V} (h : EvN te σ H (.tup xs)) : Ev (tCB (rLn K) (tCons te tNil)) σ H (.int (xs.length : Int)) := fun H1 e Q q => h H1 e _ fun p H2 _ e2 hp => ⟨_, _, rfl, .tup (st_of hp), q H2 e2⟩
end
section
variable {P : Program} {w : World} {K : PySem.W.Frag} {mg : Str → Option Value} {base : Heap} {k : Nat}
def spLaw (K : PySem.W.Frag) (P0 P1 : Addr) : Sp := fun vs H Q _ => ∃ (a : Addr) (ns : List Int), vs = [.ref a] ∧ SqL K H a (ns.map V.int) ∧ Tab P0 H ∧ LamX.TabS H P1 LQ ∧ ∀ H', Tab P0 H' → Q (.bl true) H'
theorem law_body (T : Md K mg base) (hk : 14 ≤ k) : Body P w K mg base "law" st_law ["script", "dice", "days", "table", "kept", "time", "turn", "there", "fresh", "same", "counts", "gone", "one", "k"] k (spLaw K T.P0 T.tab_law_given) := by
  obtain ⟨k, rfl⟩ : ∃ j, k = j + 2 := ⟨k - 2, by omega⟩
  rintro f cdv A outer s H vs Q E hr ⟨a, ns, rfl, ha, tab, tbs, q⟩
  refine ⟨_, (pss_cons (ps_for PassesOwn.never rfl (pi_list (pe_c (law_rounds_ok T (by omega)) hr (by rfl) (pa_cons (pv 0) (pa_cons pe_int pa_nil)))) (pg_name (i := 1) sc_law.nd rfl (Or.inr rfl))
      (pss_cons (ps_asg (pe_tup (pa_cons (pe_k0 (Days_init_ok T (by omega)) hr (by rfl)) (pa_cons pe_dnewK (pa_cons pe_dnewK (pa_cons pe_int pa_nil))))) (pg_tup (n := 4) rfl (pgs_cons (pg_name (i := 2) sc_law.nd rfl (Or.inl rfl)) (pgs_cons (pg_name (i := 3) sc_law.nd rfl (Or.inr rfl)) (pgs_cons (pg_name (i := 4) sc_law.nd rfl (Or.inr rfl)) (pgs_cons (pg_name (i := 5) sc_law.nd rfl (Or.inl rfl)) pgs_nil))))))
      (pss_cons (ps_for PassesOwn.never rfl (pi_range1 rfl T.b.range (pa_cons (pe_op op_add pe_int (pe_c (law_roll_ok T (by omega)) hr (by rfl) (pa_cons (pv 1) (pa_cons (pe_ix ix_list (pe_lst (pa_cons pe_int (pa_cons pe_int pa_nil))) (pe_c (law_roll_ok T (by omega)) hr (by rfl) (pa_cons (pv 1) (pa_cons pe_int pa_nil))) (fun _ _ => rfl)) pa_nil)))) pa_nil)) (pg_name (i := 6) sc_law.nd rfl (Or.inl rfl))
        (pss_cons (ps_set (i := 3) sc_law.nd rfl (Or.inr rfl) (pe_c (law_next_ok T (by omega)) hr (by rfl) (pa_cons (pv 1) (pa_cons (pv 3) pa_nil))))
        (pss_cons (ps_set (i := 5) sc_law.nd rfl (Or.inl rfl) (pe_op op_add (pe_op op_add (pv 5) pe_int) (pe_c (law_roll_ok T (by omega)) hr (by rfl) (pa_cons (pv 1) (pa_cons (pe_ix ix_list (pe_lst (pa_cons pe_int (pa_cons pe_int (pa_cons pe_int (pa_cons pe_int pa_nil))))) (pe_c (law_roll_ok T (by omega)) hr (by rfl) (pa_cons (pv 1) (pa_cons pe_int pa_nil))) (fun _ _ => rfl)) pa_nil)))))
        (pss_cons (ps_set (i := 7) sc_law.nd rfl (Or.inl rfl) (b_len T.b (pa_cons (pe_m0 T.cl_Store (Store_names_ok T (by omega)) hr (pe_fld (pv 2) rfl)) pa_nil)))
        (pss_cons (ps_set (i := 8) sc_law.nd rfl (Or.inl rfl) (pe_m T.cl_Days (Days_keep_ok T (by omega)) hr (pv 2) (pa_cons (pv 5) (pa_cons (pv 3) pa_nil))))
        (pss_cons (ps_un (ps_setLcF (own := [("one", 12)]) (i := 9) rfl sc_law.nd rfl rfl (sw_true rfl rfl rfl (by decide +kernel)) (pi_keys (pe_lkA (pv 4))) (blkOk_by (own := [("one", 12)]) (N := ["script", "dice", "days", "table", "kept", "time", "turn", "there", "fresh", "same", "counts", "gone", "one", "k"]) (sc := defScope st_law) (by decide +kernel)) (fun _ _ _ _ _ => (by exact (pg_name (i := 12) sc_law.nd rfl (Or.inl rfl)))) (fun _ _ _ _ _ => (by exact (pts_one (pt_cmpR (op_eqM (hu64_of hr)) (pe_dget (hu_of hr) (pv 4) (pv 12) (fun _ _ => rfl)) (pv 3) (nomark _))))) (fun _ _ _ _ _ => (by exact (pv 12))) (by walk_at "lcf") (by walk_at "lcf") (by walk_at "lcf")))
        (pss_cons (ps_if (PW.pt (pw_or (pt_cmpR op_ne (b_len T.b (pa_cons (pe_m0 T.cl_Store (Store_names_ok T (by omega)) hr (pe_fld (pv 2) rfl)) pa_nil)) (pe_op op_add (pv 7) (pv 8)) (nomark _)) (pw_or1 (PW.pt (pw_and (pt_cmpR (op_neP (hu64_of hr)) (pv 9) (pe_lst pa_nil) (nomark _)) (pw_and1 (pt_cmpR op_ne (pv 8) pe_int (nomark _)))))))) (pss_one (ps_ret pe_bl)) pss_nil)
        (pss_cons (ps_dput (hu_of hr) (pv 4) (pv 5) (pv 3) rfl)
        (pss_cons (ps_if (pt_cmpR op_eq (pe_c (law_roll_ok T (by omega)) hr (by rfl) (pa_cons (pv 1) (pa_cons pe_int pa_nil))) pe_int (nomark _)) (pss_cons (ps_setLcF (own := [("k", 13)]) (i := 10) rfl sc_law.nd rfl rfl (sw_true rfl rfl rfl (by decide +kernel)) (pi_range1 rfl T.b.range (pa_cons pe_int pa_nil)) (blkOk_by (own := [("k", 13)]) (N := ["script", "dice", "days", "table", "kept", "time", "turn", "there", "fresh", "same", "counts", "gone", "one", "k"]) (sc := defScope st_law) (by decide +kernel)) (fun _ _ _ _ _ => (by exact (pg_name (i := 13) sc_law.nd rfl (Or.inl rfl)))) (fun _ _ _ _ _ => (by exact pts_nil)) (fun _ _ _ _ _ => (by exact (pe_c (law_roll_ok T (by omega)) hr (by rfl) (pa_cons (pv 1) (pa_cons pe_int pa_nil))))) (by walk_at "lcf") (by walk_at "lcf") (by walk_at "lcf"))
          (pss_cons (ps_if (pt_cmpR (op_eqP (hu64_of hr)) (pv 10) (pe_lst (pa_cons pe_int (pa_cons pe_int (pa_cons pe_int (pa_cons pe_int pa_nil))))) (nomark _)) (pss_one (ps_set (i := 10) sc_law.nd rfl (Or.inl rfl) (pe_lst (pa_cons pe_int (pa_cons pe_int (pa_cons pe_int (pa_cons pe_int pa_nil))))))) pss_nil)
          (pss_cons (ps_set (i := 11) sc_law.nd rfl (Or.inr rfl) (pe_m T.cl_Rule (Rule_goes_ok T (by omega)) hr (pe_k (Rule_init_ok T (by omega)) hr (by rfl) (pa_cons (pe_ix ix_list (pv 10) pe_int (fun _ _ => rfl)) (pa_cons (pe_ix ix_list (pv 10) pe_int (fun _ _ => rfl)) (pa_cons (pe_ix ix_list (pv 10) pe_int (fun _ _ => rfl)) (pa_cons (pe_ix ix_list (pv 10) pe_int (fun _ _ => rfl)) pa_nil))))) (pa_cons (b_listD T.b (pa_cons (pe_fld (pv 2) rfl) pa_nil)) pa_nil)))
          (pss_cons (ps_if (pt_cmpR (op_neP (hu64_of hr)) (b_sortedT T.b (hu64_of hr) (pa_cons (pv 11) pa_nil)) (pe_c (law_goes_ok T (by omega)) hr (by rfl) (pa_cons (pv 10) (pa_cons (b_listD T.b (pa_cons (pv 4) pa_nil)) pa_nil))) (nomark _)) (pss_one (ps_ret pe_bl)) pss_nil)
          (pss_cons (ps_expr (pe_m T.cl_Days (Days_forget_ok T (by omega)) hr (pv 2) (pa_cons (pv 11) pa_nil)))
          (pss_cons (ps_set (i := 4) sc_law.nd rfl (Or.inr rfl) (b_dictL T.b (pa_cons (pe_un (pe_lcF (own := [("one", 12)]) rfl sc_law.nd (pi_keys (pe_lkA (pv 4))) (blkOk_by (own := [("one", 12)]) (N := ["script", "dice", "days", "table", "kept", "time", "turn", "there", "fresh", "same", "counts", "gone", "one", "k"]) (sc := defScope st_law) (by decide +kernel)) (fun _ _ _ _ _ => (by exact (pg_name (i := 12) sc_law.nd rfl (Or.inl rfl)))) (fun _ _ _ _ _ => (by exact (pts_one (pt_cmpR op_notIn_seq (pv 12) (pv 11) (by rfl))))) (fun _ _ _ _ _ => (by exact (pe_tup (pa_cons (pv 12) (pa_cons (pe_dget (hu_of hr) (pv 4) (pv 12) (fun _ _ => rfl)) pa_nil))))) (by walk_at "lcf") (by walk_at "lcf") (by walk_at "lcf"))) pa_nil)))
          (pss_cons (ps_expr (pe_m0 T.cl_Days (Days_sweep_ok T (by omega)) hr (pv 2)))
          (pss_one (ps_if (pt_not (pt_val (pe_c (law_swept_ok T (by omega)) hr (by rfl) (pa_cons (pv 2) (pa_cons (pv 4) pa_nil))))) (pss_one (ps_ret pe_bl)) pss_nil))))))))) pss_nil)
        (pss_one (ps_if (pt_not (pt_val (pe_c (law_given_ok T (by omega)) hr (by rfl) (pa_cons (pv 1) (pa_cons (pv 2) (pa_cons (pv 4) pa_nil)))))) (pss_one (ps_ret pe_bl)) pss_nil)))))))))))
      (pss_cons (ps_expr (pe_m0 T.cl_Days (Days_sweep_ok T (by omega)) hr (pv 2)))
      (pss_one (ps_if (PW.pt (pw_or (pt_not (pt_val (pe_c (law_swept_ok T (by omega)) hr (by rfl) (pa_cons (pv 2) (pa_cons (pv 4) pa_nil))))) (pw_or (pt_not (pt_val (pe_c (law_hurt_ok T (by omega)) hr (by rfl) (pa_cons (pv 1) (pa_cons (pv 2) (pa_cons (pv 4) pa_nil)))))) (pw_or1 (pt_not (pt_val (pe_c (law_given_ok T (by omega)) hr (by rfl) (pa_cons (pv 1) (pa_cons (pv 2) (pa_cons (pv 4) pa_nil)))))))))) (pss_one (ps_ret pe_bl)) pss_nil))))))
    (pss_one (ps_ret pe_bl))), ?_⟩
  have hc := T.cl_Days
  have hn1 := T.na_Days_store
  have hn2 := T.na_Days_times
  dsimp only
  refine cl_use (vs := [.ref a, .int 1]) (ea_cons (ev_var rfl) (ea_cons ev_c ea_nil)) fun H1 e1 => ⟨a, ns, rfl, ex_l e1 ha, fun p dc H2 hp hdc hpd e2 hpl hdi => ⟨p, rfl, ⟨_, sq_of hpl⟩, ?_⟩⟩
  have e12 := e1.trans e2
  refine for_list (fun i σ' H' => H' p = some (.lst [.ref dc]) ∧ Tab T.P0 H' ∧ (i = 0 → H' = H2 ∧ σ' = [some (.ref a), none, none, none, none, none, none, none, none, none, none, none, none, none])) ⟨hpl, tab.ex e12, fun _ => ⟨rfl, rfl⟩⟩ (fun i σ' H' _ h => sq_of h.1) ?_ ?_
  · rintro i x σ' H' hi ⟨hpl', -, h0⟩
    obtain rfl : i = 0 := by
      have := (List.getElem?_eq_some_iff.mp hi).1
      simpa using this
    obtain ⟨rfl, rfl⟩ := h0 rfl
    cases hi
    intro dy dx hy hdx hne
    refine ⟨dy, dx, rfl, upd_same, fun st d tm H4 hst hd htm ex da => ⟨rfl, ?_⟩⟩
    intro tb htb kd hkd
    refine ⟨sz_of (n := 4) (by decide), fun pt hpt => ?_⟩
    refine ⟨pt, _, rfl, st_of upd_same, rfl, _, _, rfl, _, _, rfl, _, _, rfl, _, _, rfl, rfl, ?_⟩
    generalize hH5 : L2.upd (L2.upd (L2.upd H4 tb (.dK [])) kd (.dK [])) pt _ = H5
    have hkdt : kd ≠ tb := fun z => by rw [z, upd_same] at hkd; cases hkd
    have hkd4 : H4 kd = none := by rw [upd_ne hkdt] at hkd; exact hkd
    have e45 : Ex H4 H5 := by rw [← hH5]; exact ((Ex.new htb).trans (Ex.new hkd)).trans (Ex.new hpt)
    have htb5 : H5 tb = some (.dK (tD [])) := by rw [← hH5]; exact (Ex.new hpt) _ _ ((Ex.new hkd) _ _ upd_same)
    have hkd5 : H5 kd = some (.dK (tKp [])) := by rw [← hH5]; exact (Ex.new hpt) _ _ upd_same
    have e24 : ∀ {a : Addr} {o : HO}, H' a = some o → H4 a = some o := fun {a o} h => by
      have hny : a ≠ dy := fun z => by rw [z, hy] at h; cases h
      have hnx : a ≠ dx := fun z => by rw [z, hdx] at h; cases h
      exact ex a o hny (by rw [upd_ne hny, upd_ne hnx]; exact h)
    have e25 : Ex H' H5 := fun a o h => e45 _ _ (e24 h)
    have nn : ∀ {a b : Addr} {o : HO}, H4 a = none → H4 b = some o → b ≠ a := fun h1 h2 z => by rw [z, h1] at h2; cases h2
    have L0 : LH T.C_Days T.C_Store T.P0 T.tab_law_given H5 p dc dy st d tm kd tb [] [] [] [] := ⟨e25 _ _ hpl', hdi.ex e25, da.ex e45, hkd5, nn hkd4 da.sto.2, nn hkd4 da.tim, fun _ h => (nomatch h), htb5, ⟨Ne.symm hkdt, Ne.symm (nn htb da.sto.2), Ne.symm (nn htb da.tim)⟩, (tab.ex e12).ex e25, (tbs.ext e12).ext e25⟩
    clear hH5 htb5 hkd5 e45 e24 e25 nn hpt pt hkd4 hkdt hkd htb htm hd hst ex da hy hdx hne hdi hpl h0
    dsimp only
    refine ⟨_, rfl, ?_⟩
    refine pick_use (dc := dc) (xs := [.int 5, .int 16]) (ea_cons ev_c (ea_cons ev_c ea_nil)) (by decide) (ev_var rfl) ev_c L0.di (by decide) (by decide) fun v H6 hv m6 => ?_
    obtain ⟨nt, rfl, nt0, nt1⟩ : ∃ n : Int, v = .int n ∧ 0 < n ∧ n ≤ 16 := by
      simp only [List.mem_cons, List.not_mem_nil, or_false] at hv
      rcases hv with rfl | rfl
      · exact ⟨_, rfl, by decide, by decide⟩
      · exact ⟨_, rfl, by decide, by decide⟩
    refine ⟨dc, nt, rfl, m6.di, nt0, by omega, fun r H7 r0 r1 ex7 di7 => ⟨1, r, rfl, rfl, 1 + r, rfl, by omega, by omega, ?_⟩⟩
    have L7 := L0.mv (m6.trans ⟨exs_b ex7 (by simp), di7⟩)
    refine for_range (fun i σ' H' => ∃ (kd tb : Addr) (S : Tb) (ts : Tm) (kp : Kp) (G : Tb) (time : Int) (u6 u7 u8 u9 u10 u11 : Option V), LH T.C_Days T.C_Store T.P0 T.tab_law_given H' p dc dy st d tm kd tb S ts kp G ∧ LP S ts kp i time ∧ LTb G ∧ 0 ≤ time ∧ time ≤ (i : Int) * 9001 ∧
        σ' = [some (.ref a), some (.ref dc), some (.ref dy), some (.ref tb), some (.ref kd), some (.int time), u6, u7, u8, u9, u10, u11, none, none])
      ⟨kd, tb, [], [], [], [], 0, none, none, none, none, none, none, L7, LP.nil, .nil, Int.le_refl _, Int.le_refl _, rfl⟩ ?_ ?_
    · rintro i σ' H8 hi ⟨kd, tb, S, ts, kp, G, time, u6, u7, u8, u9, u10, u11, L, LL, okG, ti0, ti1, rfl⟩
      have hi16 : i < 16 := by omega
      refine cl_use (vs := [.ref dc, .ref tb]) (ea_cons (ev_var rfl) (ea_cons (ev_var rfl) ea_nil)) fun H9 e9 => ⟨dc, tb, G, rfl, L.di.ex e9, e9 _ _ L.tba, okG, fun tb2 G2 H10 hn2' m10 h10 okG2 => ?_⟩
      have LA := (L.ex e9).newtb hn2' m10 h10
      refine ⟨_, rfl, time, 1, rfl, rfl, _, rfl, ?_⟩
      refine pick_use (dc := dc) (xs := [.int 3, .int 40, .int 400, .int 9000]) (ea_cons ev_c (ea_cons ev_c (ea_cons ev_c (ea_cons ev_c ea_nil)))) (by decide) (ev_var rfl) ev_c LA.di (by decide) (by decide) fun v H11 hv m11 => ?_
      obtain ⟨nt, rfl, nt0, nt1⟩ : ∃ n : Int, v = .int n ∧ 0 < n ∧ n ≤ 9000 := by
        simp only [List.mem_cons, List.not_mem_nil, or_false] at hv
        rcases hv with rfl | rfl | rfl | rfl
        · exact ⟨_, rfl, by decide, by decide⟩
        · exact ⟨_, rfl, by decide, by decide⟩
        · exact ⟨_, rfl, by decide, by decide⟩
        · exact ⟨_, rfl, by decide, by decide⟩
      refine ⟨dc, nt, rfl, m11.di, nt0, by omega, fun dt H12 dt0 dt1 ex12 di12 => ⟨time + 1, dt, rfl, rfl, ?_⟩⟩
      have LB := LA.mv (m11.trans ⟨exs_b ex12 (by simp), di12⟩)
      clear LA L m11 ex12 di12 m10 h10 hn2' e9 okG
      dsimp only
      generalize htm2 : time + 1 + dt = time2
      have ht2 : time < time2 ∧ time2 ≤ ((i + 1 : Nat) : Int) * 9001 := by
        rw [← htm2]
        constructor
        · omega
        · push_cast; omega
      have slen : ∀ S : Tb, ((sortS (ks S)).map V.str).length = S.length := fun S => by rw [List.length_map, (sortS_perm _).length_eq]; unfold ks; rw [List.length_map]
      obtain ⟨dx, hy⟩ := LB.da.day
      obtain ⟨dx2, hs⟩ := LB.da.sto.1
      refine q_asg (v := .int (S.length : Int)) (ev_is (ev_lenTN (en_mt mono_names (ev_fld (ev_var rfl) hy hc hn1 rfl) hs rfl ea_nil ⟨st, d, S, rfl, LB.da.sto, rfl⟩)) (by rw [slen])) fun H13 e13 => ?_
      have LC := LB.ex e13
      obtain ⟨tbok, folok, cst4, _⟩ := ltb_ok okG2
      have szS := LL.sz
      refine mt_use (vs := [.int time2, .ref tb2]) (ev_var rfl) (e13 _ _ hy) rfl (ea_cons (ev_var rfl) (ea_cons (ev_var rfl) ea_nil)) fun H14 e14 => ⟨dy, st, d, tm, tb2, S, G2, ts, time2, rfl, LC.da.ex e14, rd_of (e14 _ _ LC.tba), tbok, folok, LC.tab.ex e14, LL.wf, by omega, fun x hx => by have := LL.tim x hx; omega, by have := LL.len; omega, fun nm S2 H15 wf2 gr2 sz2 at2 same2 ex15 da15 => ?_⟩
      have LD0 := LC.ex e14
      have exd : Exn [dc, d, tm, kd] H14 H15 := fun x o n h t => ex15 x o (fun z => n (by
        rcases List.mem_cons.mp z with rfl | z
        · simp
        · rw [List.mem_singleton.mp z]; simp)) h
      have dsd : ∀ x ∈ [d, tm], ∃ kvs, H14 x = some (.dK kvs) := all2 ⟨_, LD0.da.sto.2⟩ ⟨_, LD0.da.tim⟩
      have did : Dice dc H15 := by
        obtain ⟨x, y, z, g⟩ := LD0.di
        refine ⟨x, y, z, ex15 _ _ (fun q => ?_) g⟩
        obtain ⟨kvs, g'⟩ := dsd _ q
        rw [g] at g'
        cases g'
      have hkd15 : H15 kd = some (.dK (tKp kp)) := ex15 _ _ (by simp [Ne.symm LD0.kd1, Ne.symm LD0.kd2]) LD0.kda
      have LD := LD0.step (ts' := ts ++ [(time2, nm)]) exd did da15.sto.2 da15.tim hkd15 (tab_ds dsd ex15 LD0.tbs) fun r hr => .inl ⟨r, hr, rfl⟩
      clear LD0 exd dsd did
      have ndk : (ks kp).Nodup := by rw [LL.hks]; exact LL.nd
      have hkl : kp.length ≤ 1000 := by
        have z : (ks kp).length = (ks ts).length := by rw [LL.hks]
        unfold ks at z
        rw [List.length_map, List.length_map] at z
        have := LL.len
        omega
      refine g_red (i := 8) ?_
      dsimp only
      refine q_asgUn (S := fun p H' => H' p = some (.lst ((kp.filter fun r => sameT (tD r.2.2) (tD G2)).map fun r => V.int r.1))) ?hh fun W H16 hW e16 h16 => ?_
      case hh =>
        refine EvP.imp (lc_D (ka := Sum.inl) (vb := fun z : Addr × Tb => V.ref z.1) (fun a => a = kd) kp (fun r => sameT (tD r.2.2) (tD G2)) (fun r v _ => v = V.int r.1) ?_ (by omega) (fun _ => rfl) m_val ?_) fun p H' _ h => lc_val h
        · exact EvX.imp (ev_x (ev_var rfl)) fun v H' e' hv => ⟨kd, hv, rfl, rd_of (e' _ _ hkd15)⟩
        · rintro d' H5 B od rfl e5 l r hr
          refine ⟨et_test (fun H6 e6 Q' q' => ?_), fun _ => ev_x (ev_var rfl)⟩
          obtain ⟨g1, _⟩ := LD.row r hr
          refine ev_use (ev_dget (k := .inl r.1) (ev_var rfl) (ev_var rfl) (.inr ⟨_, e6 _ _ l.there⟩) (by rw [en_look inl_inj', lk_of ndk (k := r.1) (v := r.2) hr]; rfl)) fun H7' e7' => ⟨_, rfl, r.2.1, tb2, _, _, rfl, rfl, ex_rd (e6.trans e7') (l.dic (rd_of (e5 _ _ g1))), ex_rd (e6.trans e7') (l.dic (rd_of (e5 _ _ LD.tba))), fun _ => hits_tD _ _, q' H7' e7'⟩
      have LE := LD.ex e16
      obtain ⟨dx', hy'⟩ := LE.da.day
      obtain ⟨dx2', hs'⟩ := LE.da.sto.1
      refine q_when (b := false) (et_or (a := false) (b := false) (et_is (et_test (ev_op (ev_is (ev_lenTN (en_mt mono_names (ev_fld (ev_var rfl) hy' hc hn1 rfl) hs' rfl ea_nil ⟨st, d, S2, rfl, LE.da.sto, rfl⟩)) (by rw [slen])) (ev_op (ev_var rfl) (ev_var rfl) rv_I0) (rv_ne rfl))) ?_) fun _ => et_is (et_and (et_test (ev_neNil (ev_var rfl) (xs := (kp.filter fun r => sameT (tD r.2.2) (tD G2)).map fun r => V.int r.1) (sq_of h16) ?_)) fun _ => et_test (ev_op (ev_var rfl) ev_c (rv_ne rfl))) ?_) nofun fun _ H17 e17 => ?_
      · have z : (S.length : Int) + ((S2.length : Int) - (S.length : Int)) = (S2.length : Int) := by omega
        rw [z]; simp
      · intro x hx
        obtain ⟨r, _, rfl⟩ := List.mem_map.mp hx
        trivial
      · cases hf : kp.filter fun r => sameT (tD r.2.2) (tD G2) with
        | nil => rfl
        | cons r u =>
          have hr : r ∈ kp.filter fun r => sameT (tD r.2.2) (tD G2) := by rw [hf]; exact List.mem_cons_self ..
          obtain ⟨hr1, hr2⟩ := List.mem_filter.mp hr
          have hcc := sameT_can (LL.row r hr1).1.nd okG2.nd hr2
          have hk : r.1 ∈ ks ts := by rw [← LL.hks]; exact List.mem_map.mpr ⟨r, hr1, rfl⟩
          obtain ⟨nm0, hnm0⟩ := mem_ks hk
          have hs2 : S2 = S := same2 nm0 (by rw [← hcc]; exact (LL.row r hr1).2 nm0 hnm0)
          rw [hs2]
          simp
      have LF := LE.ex e17
      refine q_dput (d := kd) (kvs := tKp kp) (k := .inl time2) (v := .ref tb2) (ev_var rfl) (ev_var rfl) (ev_var rfl) LF.kda (by rw [en_len]; exact sz_lt (by omega)) fun H18 e18 => ?_
      have LG0 := LF.ex e18
      have hput : putK (tKp kp) (.inl time2) (.ref tb2) = tKp (kp ++ [(time2, (tb2, G2))]) := by
        have z := en_put (ka := Sum.inl) (vb := fun z : Addr × Tb => V.ref z.1) inl_inj' kp time2 (tb2, G2)
        rw [pu_new (by rw [LL.hks]; exact LL.fresh ht2.1)] at z
        exact z
      rw [hput]
      generalize hH19 : L2.upd H18 kd (.dK (tKp (kp ++ [(time2, (tb2, G2))]))) = H19
      have exk : Exs [kd] H18 H19 := by rw [← hH19]; exact exs_upd (Exs.refl _ _) (by simp)
      have dkd : ∀ x ∈ [kd], ∃ kvs, H18 x = some (.dK kvs) := all1 ⟨_, LG0.kda⟩
      have nkd : ∀ {b : Addr} {o : HO}, H18 b = some o → b ≠ kd → H19 b = some o := fun h hn => exk _ _ (by simpa using hn) h
      have LG := LG0.step (kp' := kp ++ [(time2, (tb2, G2))]) (exn_of (exk.mono (by simp))) (by
          obtain ⟨x, y, z, g⟩ := LG0.di
          exact ⟨x, y, z, nkd g (fun q => by rw [q, LG0.kda] at g; cases g)⟩) (nkd LG0.da.sto.2 LG0.kd1) (nkd LG0.da.tim LG0.kd2) (by rw [← hH19]; exact upd_same) (tab_ds dkd exk LG0.tbs) fun r hr => (List.mem_append.mp hr).elim (fun h => .inl ⟨r, h, rfl⟩) fun h => .inr (by rw [List.mem_singleton.mp h])
      have LM := LL.keep (tb := tb2) okG2 wf2 gr2 sz2 at2 ht2.1 ti0
      clear LG0 LF LE LD LC LB exk dkd nkd hH19 hput
      generalize ts ++ [(time2, nm)] = ts1 at LG LM
      generalize kp ++ [(time2, (tb2, G2))] = kp1 at LG LM
      have lpk : ∀ {S3 : Tb} {ts3 : Tm} {kp3 : Kp}, LP S3 ts3 kp3 (i + 1) time2 → ts3.length ≤ 16 ∧ kp3.length ≤ 16 := fun {S3 ts3 kp3} M => by
        have z : (ks kp3).length = (ks ts3).length := by rw [M.hks]
        unfold ks at z
        rw [List.length_map, List.length_map] at z
        have := M.len
        omega
      refine q_ifM (fun σ' H' => ∃ (kd3 : Addr) (S3 : Tb) (ts3 : Tm) (kp3 : Kp) (v6 v7 v8 v9 v10 v11 : Option V), LH T.C_Days T.C_Store T.P0 T.tab_law_given H' p dc dy st d tm kd3 tb2 S3 ts3 kp3 G2 ∧ LP S3 ts3 kp3 (i + 1) time2 ∧ σ' = [some (.ref a), some (.ref dc), some (.ref dy), some (.ref tb2), some (.ref kd3), some (.int time2), v6, v7, v8, v9, v10, v11, none, none]) ?fin fun fin => ?_
      case fin =>
        rintro σ' H20 ⟨kd3, S3, ts3, kp3, v6, v7, v8, v9, v10, v11, L3, M3, rfl⟩
        refine cl_use (vs := [.ref dc, .ref dy, .ref kd3]) (ea_cons (ev_var rfl) (ea_cons (ev_var rfl) (ea_cons (ev_var rfl) ea_nil))) fun H21 e21 => ⟨dc, dy, st, d, tm, kd3, S3, ts3, kp3, rfl, L3.di.ex e21, L3.da.ex e21, M3.wf, e21 _ _ L3.kda, ⟨L3.kd1, L3.kd2⟩, fun r hr => (L3.row r hr).2.1, fun r hr => ⟨e21 _ _ (L3.row r hr).1, (M3.row r hr).1, (ltb_ok (M3.row r hr).1).2.1, (M3.row r hr).2⟩, M3.hks, M3.nd, by have := (lpk M3).1; omega, fun t ht => by have := M3.tim t ht; omega, L3.tab.ex e21, L3.tbs.ext e21, fun H22 m22 => ⟨_, rfl, ?_⟩⟩
        exact ⟨kd3, tb2, S3, ts3, kp3, G2, time2, v6, v7, v8, v9, v10, v11, (L3.ex e21).mt m22, M3, okG2, by omega, ht2.2, rfl⟩
      refine rollT (dc := dc) (n := 3) (ev_var rfl) ev_c LG.di (by decide) (by decide) fun b H20 m20 => ?_
      have LI := LG.mv m20
      cases b with
      | false => exact fin _ _ ⟨kd, S2, ts1, kp1, _, _, _, _, _, _, LI, LM, rfl⟩
      | true =>
        rw [if_pos rfl]
        refine ⟨4, rfl, by decide, by decide, fun Lc hLc => ?_⟩
        have hLd : Lc ≠ dc := dice_ne_new LI.di hLc
        refine lc_range (fun i H6 => Mv dc H20 H6 ∧ ∃ ys : List Int, H6 Lc = some (.lst (ys.map V.int)) ∧ ys.length = i ∧ ∀ y ∈ ys, 0 ≤ y) ⟨mv_of LI.di (Ex.new hLc), [], upd_same, rfl, fun _ h => (nomatch h)⟩ ?_ ?_
        · rintro j H6 hj ⟨m6, ys, hys, hyl, hy0⟩
          refine ⟨rfl, yes_raw ?_⟩
          refine roll_use (dc := dc) (n := 6) (ev_var rfl) ev_c m6.di (by decide) (by decide) fun r H7 g0 g1 m7 => ?_
          refine ⟨_, m7.at hys hLd, by rw [List.length_map]; exact sz_lt (by omega), (m6.trans m7).upd hLc hLd, ys ++ [r], by rw [List.map_append]; exact upd_same, by rw [List.length_append, hyl]; rfl, fun y hy => ?_⟩
          rcases List.mem_append.mp hy with hy | hy
          · exact hy0 y hy
          · rw [List.mem_singleton.mp hy]; exact g0
        rintro H21 ⟨m21, ys, hys, hyl, hy0⟩
        obtain ⟨x0, x1, x2, x3, rfl⟩ : ∃ x0 x1 x2 x3, ys = [x0, x1, x2, x3] := by
          match ys, hyl with
          | [x0, x1, x2, x3], _ => exact ⟨x0, x1, x2, x3, rfl⟩
        have LJ := LI.mv m21
        refine g_red (i := 10) ?_
        dsimp only
        refine q_ifM (fun σ' H' => ∃ (cn : Addr) (x0 x1 x2 x3 : Int) (v6 v7 v8 v9 v11 : Option V), LH T.C_Days T.C_Store T.P0 T.tab_law_given H' p dc dy st d tm kd tb2 S2 ts1 kp1 G2 ∧ H' cn = some (.lst [.int x0, .int x1, .int x2, .int x3]) ∧ 0 ≤ x0 ∧ 0 ≤ x1 ∧ 0 ≤ x2 ∧ 0 ≤ x3 ∧
          σ' = [some (.ref a), some (.ref dc), some (.ref dy), some (.ref tb2), some (.ref kd), some (.int time2), v6, v7, v8, v9, some (.ref cn), v11, none, none]) ?fin2 fun fin2 => ?_
        case fin2 =>
          rintro σ' H22 ⟨cn, y0, y1, y2, y3, v6, v7, v8, v9, v11, LK, hcn, hx0, hx1, hx2, hx3, rfl⟩
          have ndT : (ks ts1).Nodup := LM.nd
          have lT : (ks ts1).length ≤ 100 := by have := (lpk LM).1; unfold ks; rw [List.length_map]; omega
          have ndK : (ks kp1).Nodup := by rw [LM.hks]; exact ndT
          have hix : ∀ (j : Nat) (i : Int) (v : Int), i = (j : Int) → [V.int y0, .int y1, .int y2, .int y3][j]? = some (.int v) → Ev (tOp (rIxL K) (tVar 10) (tC (.int i))) [some (.ref a), some (.ref dc), some (.ref dy), some (.ref tb2), some (.ref kd), some (.int time2), v6, v7, v8, v9, some (.ref cn), v11, none, none] H22 (.int v) := fun j i v hi hj => by
            subst hi
            exact ev_op (ev_var (i := 10) rfl) ev_c (rv_ixL (sq_of hcn) (atI_nat (j := j) hj))
          refine q_makeM (ea_cons (hix 0 0 y0 rfl rfl) (ea_cons (hix 1 1 y1 rfl rfl) (ea_cons (hix 2 2 y2 rfl rfl) (ea_cons (hix 3 3 y3 rfl rfl) ea_nil)))) fun H23 e23 => ?_
          intro rx rdx hrx hrdx hrne
          refine ⟨rx, rdx, y0, y1, y2, y3, rfl, upd_same, hx0, hx1, hx2, hx3, fun H24 ex24 hx24 => ⟨rfl, rx, rdx, _, rfl, hx24, rfl, ?_⟩⟩
          have e24 : Ex H23 H24 := fun b o h => by
            have n1 : b ≠ rx := fun z => by rw [z, hrx] at h; cases h
            have n2 : b ≠ rdx := fun z => by rw [z, hrdx] at h; cases h
            exact ex24 b o n1 (by rw [upd_ne n1, upd_ne n2]; exact h)
          have LN := (LK.ex e23).ex e24
          obtain ⟨dxn, hyn⟩ := LN.da.day
          refine EvN.use (en_is (en_listD (ev_fld (ev_var rfl) hyn hc hn2 rfl) LN.da.tim) (o' := .lst ((ks ts1).map V.int)) (congrArg HO.lst (en_kInt _ _))) fun l H25 hl e25 hl25 => ?_
          refine ⟨_, ⟨rx, rdx, l, y0, y1, y2, y3, ks ts1, rfl, e25 _ _ hx24, sq_of hl25, ndT, lT, hx0, hx1, hx2, hx3, rfl⟩, fun g H26 hg e26 h26 => ?_⟩
          have LO := (LN.ex e25).ex e26
          have hcn26 : H26 cn = some (.lst [.int y0, .int y1, .int y2, .int y3]) := e26 _ _ (e25 _ _ (e24 _ _ (e23 _ _ hcn)))
          generalize hgs : goesL y0 y1 y2 y3 (ks ts1) = gs at h26
          have gnd : gs.Nodup := by rw [← hgs]; exact goes_nd ndT
          have gsub : ∀ t ∈ gs, t ∈ ks ts1 := by rw [← hgs]; exact goes_sub
          dsimp only
          refine q_when (b := false) (et_is (et_test (ev_neIIN (xs := sortI gs) (ys := goesL y0 y1 y2 y3 (ks kp1)) (en_srtI (ev_var rfl) (.inr (st_of h26))) (en_goes2 (ev_var rfl) (sq_of hcn26) (en_is (en_listD (ev_var rfl) LO.kda) (congrArg HO.lst (en_kInt _ _))) ndK (by rw [LM.hks]; exact lT) hx0 hx1 hx2 hx3))) (by rw [← hgs, goes_sorted, LM.hks]; simp)) nofun fun _ H27 e27 => ?_
          have LQ1 := LO.ex e27
          obtain ⟨dxq, hyq⟩ := LQ1.da.day
          refine mt_use (σ := [some (.ref a), some (.ref dc), some (.ref dy), some (.ref tb2), some (.ref kd), some (.int time2), v6, v7, v8, v9, some (.ref cn), some (.ref g), none, none]) (vs := [.ref g]) (ev_var rfl) hyq rfl (ea_cons (ev_var rfl) ea_nil) fun H28 e28 => ⟨dy, st, tm, dxq, g, ts1, gs, rfl, e28 _ _ hyq, (LQ1.ex e28).da.tim, st_of (e28 _ _ (e27 _ _ h26)), gnd, gsub, fun H29 ex29 htm29 => ?_⟩
          have LR0 := LQ1.ex e28
          have ntm : ∀ {b : Addr} {o : HO}, H28 b = some o → b ≠ tm → H29 b = some o := fun h hn => ex29 _ _ (by simpa using hn) h
          have LR := LR0.step (ts' := ts1.filter fun r => decide (r.1 ∉ gs)) (kp' := kp1) (exn_of (ex29.mono (by simp))) (by
            obtain ⟨x, y, z, gd⟩ := LR0.di
            exact ⟨x, y, z, ntm gd (fun q => by rw [q, LR0.da.tim] at gd; cases gd)⟩) (ntm LR0.da.sto.2 (Ne.symm LR0.da.ne)) htm29 (ntm LR0.kda (Ne.symm LR0.kd2)) (tab_ds (all1 ⟨_, LR0.da.tim⟩) ex29 LR0.tbs) fun r hr => .inl ⟨r, hr, rfl⟩
          have hg29 : SqT K H29 g (gs.map V.int) := exs_t ex29 (all1 (notup_d (rd_of LR0.da.tim))) (st_of (e28 _ _ (e27 _ _ h26)))
          clear LR0 ntm
          dsimp only
          refine q_asgN (o := .dK (tKp (kp1.filter fun r => decide (r.1 ∉ gs)))) (en_is (en_dictP (kv := fun r => ((Sum.inl r.1 : Key), V.ref r.2.1)) (lc_D (ka := Sum.inl) (vb := fun z : Addr × Tb => V.ref z.1) (fun q => q = kd) kp1 (fun r => decide (r.1 ∉ gs)) _ ?_ (by have := (lpk LM).2; omega) (fun _ => rfl) m_tup ?_)) (congrArg HO.dK ?_)) fun kd2 H30 hkd2 e30 h30 => ?_
          · exact EvX.imp (ev_x (ev_var rfl)) fun v H' e' hv => ⟨kd, hv, rfl, rd_of (e' _ _ LR.kda)⟩
          · rintro d' H5 B od rfl e5 l r hr
            refine ⟨et_is (et_test (ev_op (ev_var rfl) (ev_var rfl) (rv_niT (l.tup (ex_t e5 hg29)) rfl (flat_ints gs)))) ?_, fun _ => ex_tup (ea_cons (ev_var rfl) (ea_cons (ev_dget (k := .inl r.1) (ev_var rfl) (ev_var rfl) (l.dic (rd_of (e5 _ _ LR.kda))) (by rw [en_look inl_inj', lk_of ndK (k := r.1) (v := r.2) hr]; rfl)) ea_nil)) (by simp)⟩
            show (!inV (V.int r.1) (gs.map V.int)) = _
            rw [inV_int]
            by_cases z : r.1 ∈ gs <;> simp [z]
          · have z := en_merge0 (ka := Sum.inl) (vb := fun z : Addr × Tb => V.ref z.1) inl_inj' (kp1.filter fun r => decide (r.1 ∉ gs))
            rw [mrg_nd (by rw [ks_filter kp1 fun t => decide (t ∉ gs)]; exact ndK.filter _)] at z
            exact z
          have LS := LR.newkd (ds := []) hkd2 e30 h30 fun r hr => (List.mem_filter.mp hr).1
          have LMf := LM.forget gs
          refine sweep_use (σ := [some (.ref a), some (.ref dc), some (.ref dy), some (.ref tb2), some (.ref kd2), some (.int time2), v6, v7, v8, v9, some (.ref cn), some (.ref g), none, none]) (ev_var rfl) LS LMf (by omega) fun v H31 L31 => ?_
          refine swept_use (σ := [some (.ref a), some (.ref dc), some (.ref dy), some (.ref tb2), some (.ref kd2), some (.int time2), v6, v7, v8, v9, some (.ref cn), some (.ref g), none, none]) (ev_var rfl) (ev_var rfl) L31 LMf (by omega) fun H32 L32 => ⟨_, rfl, ?_⟩
          exact fin _ _ ⟨kd2, swp S2 (ts1.filter fun r => decide (r.1 ∉ gs)), _, _, _, _, _, _, _, _, L32, LMf.sweep, rfl⟩
        refine q_when (b := decide ([x0, x1, x2, x3] = [0, 0, 0, 0])) (et_test (ev_eqIN (ev_var rfl) (sq_of hys) (en_lst (ws := [.int 0, .int 0, .int 0, .int 0]) (ea_cons ev_c (ea_cons ev_c (ea_cons ev_c (ea_cons ev_c ea_nil)))) (by decide)))) (fun _ H22 e22 => ?_) fun _ H22 e22 => ?_
        · exact s_asgN (en_lst (ws := [.int 1, .int 0, .int 0, .int 0]) (ea_cons ev_c (ea_cons ev_c (ea_cons ev_c (ea_cons ev_c ea_nil)))) (by decide)) fun C H23 hC e23 h23 => fin2 _ _ ⟨C, 1, 0, 0, 0, _, _, _, _, _, LJ.ex (e22.trans e23), h23, by decide, by decide, by decide, by decide, rfl⟩
        · exact fin2 _ _ ⟨Lc, x0, x1, x2, x3, _, _, _, _, _, LJ.ex e22, e22 _ _ hys, hy0 _ (by simp), hy0 _ (by simp), hy0 _ (by simp), hy0 _ (by simp), rfl⟩
    · rintro σ' H8 ⟨kd, tb, S, ts, kp, G, time, u6, u7, u8, u9, u10, u11, L, LL, okG, ti0, ti1, rfl⟩
      have hn16 : (1 + r).toNat ≤ 16 := by omega
      refine sweep_use (ev_var rfl) L LL (by omega) fun v H9 L9 => ?_
      have LS := LL.sweep
      refine swept_use (ev_var rfl) (ev_var rfl) L9 LL hn16 fun H10 L10 => ⟨_, rfl, ?_⟩
      refine cl_use (σ := [some (.ref a), some (.ref dc), some (.ref dy), some (.ref tb), some (.ref kd), some (.int time), u6, u7, u8, u9, u10, u11, none, none]) (vs := [.ref dc, .ref dy, .ref kd]) (ea_cons (ev_var rfl) (ea_cons (ev_var rfl) (ea_cons (ev_var rfl) ea_nil))) fun H11 e11 => ⟨dc, dy, st, d, tm, kd, swp S ts, ts, kp, rfl, L10.di.ex e11, L10.da.ex e11, LS.wf, rd_of (e11 _ _ L10.kda), Ne.symm L10.kd1, LS.hks, LS.nd, by have := LS.len; omega, LS.rooted, fun S' H12 hperm ex12 di12 da12 => ⟨_, rfl, ?_⟩⟩
      have L11 := L10.ex e11
      have LT := LS.perm hperm
      have hkd12 : H12 kd = some (.dK (tKp kp)) := ex12 _ _ (fun z => by
        rcases List.mem_cons.mp z with z | z
        · obtain ⟨x, y, w', g⟩ := L11.di
          rw [← z, L11.kda] at g
          cases g
        · exact L11.kd1 (List.mem_singleton.mp z).symm) L11.kda
      have L12 := L11.step (S' := S') (exn_of (ex12.mono (by simp))) di12 da12.sto.2 da12.tim hkd12 (tab_dd L11.di L11.da.sto.2 ex12 L11.tbs) fun r hr => .inl ⟨r, hr, rfl⟩
      refine cl_use (σ := [some (.ref a), some (.ref dc), some (.ref dy), some (.ref tb), some (.ref kd), some (.int time), u6, u7, u8, u9, u10, u11, none, none]) (vs := [.ref dc, .ref dy, .ref kd]) (ea_cons (ev_var rfl) (ea_cons (ev_var rfl) (ea_cons (ev_var rfl) ea_nil))) fun H21 e21 => ⟨dc, dy, st, d, tm, kd, S', ts, kp, rfl, L12.di.ex e21, L12.da.ex e21, LT.wf, e21 _ _ L12.kda, ⟨L12.kd1, L12.kd2⟩, fun r hr => (L12.row r hr).2.1, fun r hr => ⟨e21 _ _ (L12.row r hr).1, (LT.row r hr).1, (ltb_ok (LT.row r hr).1).2.1, (LT.row r hr).2⟩, LT.hks, LT.nd, by have := LT.len; omega, fun t ht => by have := LT.tim t ht; omega, L12.tab.ex e21, L12.tbs.ext e21, fun H22 m22 => ⟨_, rfl, ?_⟩⟩
      exact ⟨((L12.ex e21).mt m22).lst, ((L12.ex e21).mt m22).tab, fun h => by cases h⟩
  · rintro σ' H' ⟨hpl', ht, h0⟩
    exact q H' ht
end
end Kw


set_option Elab.async false
set_option linter.all false
set_option maxRecDepth 100000
set_option maxHeartbeats 4000000
/-! End63: the head's facts by names; the end. -/
namespace Kw
open PySem PySem.Spec PyProof.Rows L2 Evl
def dd63 (x : Str) (st : Stmt) : He.DefD := ⟨(x, none), x, x, defArgs st, defBody st, defScope st, [], []⟩
def dm63 (C m q : Str) (st : Stmt) : He.DefD := ⟨(C, some m), m, q, defArgs st, defBody st, defScope st, [], []⟩
def fn63 : List He.DefD := [dd63 "check_path" st_check_path,
  dd63 "check_folder" st_check_folder,
  dd63 "overs_of" st_overs_of,
  dd63 "names_in" st_names_in,
  dd63 "part_of" st_part_of,
  dd63 "figure" st_figure,
  ⟨("Store", some "__init__"), "__init__", "Store.__init__", defArgs st_Store___init__, defBody st_Store___init__, defScope st_Store___init__, [.adr (He.dflAt ("Store", some "__init__") 0)], []⟩,
  dm63 "Store" "put" "Store.put" st_Store_put,
  dm63 "Store" "get" "Store.get" st_Store_get,
  dm63 "Store" "find" "Store.find" st_Store_find,
  dm63 "Store" "drop" "Store.drop" st_Store_drop,
  dm63 "Store" "names" "Store.names" st_Store_names,
  dd63 "check_bounds" st_check_bounds,
  dd63 "sums" st_sums,
  dd63 "told" st_told,
  dd63 "put_text" st_put_text,
  dd63 "get_text" st_get_text,
  dd63 "body" st_body,
  dd63 "words_of" st_words_of,
  dd63 "put_folder" st_put_folder,
  dd63 "rows_of" st_rows_of,
  dd63 "get_folder" st_get_folder,
  dd63 "needs" st_needs,
  dm63 "Days" "__init__" "Days.__init__" st_Days___init__,
  dm63 "Days" "keep" "Days.keep" st_Days_keep,
  dm63 "Days" "give" "Days.give" st_Days_give,
  dm63 "Days" "last_at" "Days.last_at" st_Days_last_at,
  dm63 "Days" "forget" "Days.forget" st_Days_forget,
  dm63 "Days" "needed" "Days.needed" st_Days_needed,
  dm63 "Days" "sweep" "Days.sweep" st_Days_sweep,
  dm63 "Days" "hurt" "Days.hurt" st_Days_hurt,
  dm63 "Rule" "__init__" "Rule.__init__" st_Rule___init__,
  dm63 "Rule" "parts" "Rule.parts" st_Rule_parts,
  dm63 "Rule" "stays" "Rule.stays" st_Rule_stays,
  dm63 "Rule" "goes" "Rule.goes" st_Rule_goes,
  dd63 "_law_dice" st_law_dice,
  dd63 "_law_roll" st_law_roll,
  dd63 "_law_rounds" st_law_rounds,
  dd63 "_law_told" st_law_told,
  dd63 "_law_text" st_law_text,
  dd63 "_law_paths" st_law_paths,
  dd63 "_law_next" st_law_next,
  dd63 "_law_cut" st_law_cut,
  dd63 "_law_inner" st_law_inner,
  dd63 "_law_goes" st_law_goes,
  dd63 "_law_swept" st_law_swept,
  dd63 "_law_given" st_law_given,
  dd63 "_law_hurt" st_law_hurt,
  dd63 "law" st_law]
def fa63 : List He.Fa := [.free "len", .free "range", .free "sorted", .free "tuple", .free "list", .free "dict", .free "str", .free "int", .free "ord", .free "min", .free "max", .free "abs", .free "any", .free "sum", .free "map", .free "zip", .free "enumerate", .free "isinstance", .cls "Store", .noat "Store" "pieces", .cls "Days", .noat "Days" "store", .noat "Days" "times", .cls "Rule", .noat "Rule" "newest", .noat "Rule" "days", .noat "Rule" "weeks", .noat "Rule" "months", .glo "check_path", .glo "check_folder", .glo "overs_of", .glo "names_in", .glo "part_of", .glo "figure", .mkr "Store", .glo "Store", .meth "Store" "put", .meth "Store" "get", .meth "Store" "find", .meth "Store" "drop", .meth "Store" "names", .glo "check_bounds", .glo "sums", .glo "told", .glo "put_text", .glo "get_text", .glo "body", .glo "words_of", .glo "put_folder", .glo "rows_of", .glo "get_folder", .glo "needs", .mkr "Days", .glo "Days", .meth "Days" "keep", .meth "Days" "give", .meth "Days" "last_at", .meth "Days" "forget", .meth "Days" "needed", .meth "Days" "sweep", .meth "Days" "hurt", .mkr "Rule", .glo "Rule", .meth "Rule" "parts", .meth "Rule" "stays", .meth "Rule" "goes", .glo "_law_dice", .glo "_law_roll", .glo "_law_rounds", .glo "_law_told", .glo "_law_text", .glo "_law_paths", .glo "_law_next", .glo "_law_cut", .glo "_law_inner", .glo "_law_goes", .glo "_law_swept", .glo "_law_given", .glo "_law_hurt", .glo "law", .str "SIGNS" "abcdefghijklmnopqrstuvwxyz0123456789._-", .int "BASE" 257, .int "WIDE" 1000003, .glo "BOUNDS", .int "DAY" 24, .int "WEEK" 168, .int "MONTH" 672, .exc "NoSuch", .glo "NoSuch", .glo "BadPiece", .glo "Lost"]
def tf63 : List He.Defn := [("check_folder", none), ("_law_given", none)]
def tupB (K : PySem.W.Frag) (a : Addr) (vs : List V) : Bool := match K.lookup a with
  | some ⟨.type c, _, .seq its _, _⟩ => decide (c = "tuple") && (He.relAll vs its.toList && decide (its.size ≤ sizeLine))
  | _ => false
theorem tupB_ok {K : PySem.W.Frag} {H : Hp} {a : Addr} {vs : List V} (h : tupB K a vs = true) : SqT K H a vs := by
  unfold tupB at h
  cases e : K.lookup a with
  | none => rw [e] at h; cases h
  | some o =>
    obtain ⟨oc, od, dt, sl⟩ := o
    rw [e] at h
    cases oc with
    | type c =>
      cases dt with
      | seq its m =>
        obtain ⟨h1, h2⟩ := Bool.and_eq_true_iff.mp h
        obtain ⟨h3, h4⟩ := Bool.and_eq_true_iff.mp h2
        exact .inr ⟨_, its, m, e, congrArg Value.type (of_decide_eq_true h1), rfl, of_decide_eq_true h4, He.relAll_ok h3⟩
      | _ => cases h
    | _ => cases h
def ex63 (K : PySem.W.Frag) : Bool := tupB K (He.ga K "BOUNDS") [.int 4, .int 12, .int 3, .int 5] && (tupB K (He.dflAt ("Store", some "__init__") 0 K) [] && (PySem.W.isClsIn K (He.ga K "NoSuch") && (decide (PySem.W.exmAny K (.ref (He.ga K "NoSuch")) [.ref (He.ga K "NoSuch"), .ref (He.ga K "BadPiece")] = some true) &&
  (decide (PySem.W.exmAny K (.ref (He.ga K "NoSuch")) [.ref (He.ga K "Lost"), .ref (He.ga K "NoSuch")] = some true) && (decide (PySem.W.subIn K (.ref (He.ga K "NoSuch")) (.ref (He.ga K "NoSuch")) = some true) && decide ((He.cT K ("check_folder", none)).2 ≠ (He.cT K ("_law_given", none)).2))))))
section
variable {K : PySem.W.Frag}
theorem a2 {a b : Bool} (h : (a && b) = true) : a = true ∧ b = true := Bool.and_eq_true_iff.mp h
theorem ex63_1 (h : ex63 K = true) : tupB K (He.ga K "BOUNDS") [.int 4, .int 12, .int 3, .int 5] = true := (a2 h).1
theorem ex63_2 (h : ex63 K = true) : tupB K (He.dflAt ("Store", some "__init__") 0 K) [] = true := (a2 (a2 h).2).1
theorem ex63_3 (h : ex63 K = true) : PySem.W.isClsIn K (He.ga K "NoSuch") = true := (a2 (a2 (a2 h).2).2).1
theorem ex63_4 (h : ex63 K = true) : PySem.W.exmAny K (.ref (He.ga K "NoSuch")) [.ref (He.ga K "NoSuch"), .ref (He.ga K "BadPiece")] = some true := of_decide_eq_true (a2 (a2 (a2 (a2 h).2).2).2).1
theorem ex63_5 (h : ex63 K = true) : PySem.W.exmAny K (.ref (He.ga K "NoSuch")) [.ref (He.ga K "Lost"), .ref (He.ga K "NoSuch")] = some true := of_decide_eq_true (a2 (a2 (a2 (a2 (a2 h).2).2).2).2).1
theorem ex63_6 (h : ex63 K = true) : PySem.W.subIn K (.ref (He.ga K "NoSuch")) (.ref (He.ga K "NoSuch")) = some true := of_decide_eq_true (a2 (a2 (a2 (a2 (a2 (a2 h).2).2).2).2).2).1
theorem ex63_7 (h : ex63 K = true) : (He.cT K ("check_folder", none)).2 ≠ (He.cT K ("_law_given", none)).2 := of_decide_eq_true (a2 (a2 (a2 (a2 (a2 (a2 h).2).2).2).2).2).2
end
section
variable {K : PySem.W.Frag} {h : Heap} {mg : Str → Option Value} {fa : List He.Fa} {fn : List He.DefD} {x m q C : Str} {st : Stmt} {ps : List Str}
theorem fun_of {f : Addr} {fd : FuncData} (F : FunD K x q (defArgs st) (defBody st) (defScope st) [] [] f fd) : Fun K x q st f fd := by
  obtain ⟨⟨oc, od, dV, kV, doc, pm, an, cdv, ct, osl, rfl, lk, hcd, hD, _⟩, kp⟩ := F
  rcases hD with ⟨_, rfl⟩ | ⟨e, _⟩
  · exact ⟨⟨oc, od, kV, doc, pm, an, cdv, ct, osl, rfl, lk, hcd⟩, kp⟩
  · exact absurd rfl e
abbrev BA (x q : Str) (st : Stmt) (ps : List Str) : Prop := ∀ (kV doc pm : Value) (an : Option Addr) (cdv ct : Value) (us : List Value), us.length = ps.length → bindArgs (PySem.W.fnOf x q (defArgs st) (defBody st) (defScope st) .none kV doc pm an cdv ct) ⟨us, []⟩ = pure (ps.zip us)
theorem dAt (X : K.In h) (G : h.Ns mainGlobals mg) (cd : He.SaysD fa fn K) (i j : Nat) (hi : fn[i]? = some (dd63 x st)) (hj : fa[j]? = some (.glo x)) (hb : BA x x st ps) : DefAt K mg x st ps := by
  obtain ⟨fd, F⟩ := cd.def_ i hi
  exact ⟨_, fd, fun_of F, He.glo_ok X G (cd.fact j hj), FunD.bindsN F hb⟩
theorem dAtC (X : K.In h) (G : h.Ns mainGlobals mg) (cd : He.SaysD fa fn K) (i j : Nat) (hi : fn[i]? = some (dd63 x st)) (hj : fa[j]? = some (.glo x)) (hb : BA x x st ps) : DefAtC K mg x st ps (He.cT K (x, none)).1 := by
  obtain ⟨fd, F⟩ := cd.def_ i hi
  have B := FunD.bindsN F hb
  obtain ⟨⟨oc, od, dV, kV, doc, pm, an, cdv, ct, osl, rfl, lk, hcd, hD, _⟩, kp⟩ := F
  rcases hD with ⟨_, rfl⟩ | ⟨e, _⟩
  · obtain ⟨c, rfl⟩ := He.codeIn_ref hcd
    have e : He.codeOf K (x, none) = c := He.codeOf_eq (p := (x, none)) lk rfl
    show DefAtC K mg x st ps (He.codeOf K (x, none))
    rw [e]
    exact ⟨_, oc, od, an, osl, kV, doc, pm, ct, lk, hcd, kp, He.glo_ok X G (cd.fact j hj), B⟩
  · exact absurd rfl e
theorem mAt (cd : He.SaysD fa fn K) (i j : Nat) (hi : fn[i]? = some (dm63 C m q st)) (hj : fa[j]? = some (.meth C m)) (hb : BA m q st ps) : MethAt K (He.ga K C) m q st ps := by
  obtain ⟨fd, F⟩ := cd.def_ i hi
  exact ⟨_, fd, fun_of F, He.meth_ok (cd.fact j hj), FunD.bindsN F hb⟩
theorem kAt (X : K.In h) (G : h.Ns mainGlobals mg) (cd : He.SaysD fa fn K) (i j j2 : Nat) (hi : fn[i]? = some (dm63 C "__init__" q st)) (hj : fa[j]? = some (.mkr C)) (hj2 : fa[j2]? = some (.glo C)) (hb : BA "__init__" q st ps) : ClassAt K mg (He.ga K C) C q st ps [] := by
  obtain ⟨fd, F⟩ := cd.def_ i hi
  exact ⟨_, fd, [], F, He.mkr_ok (cd.fact j hj), He.glo_ok X G (cd.fact j2 hj2), FunD.bindsN F hb, .nil⟩
theorem kAtS (X : K.In h) (G : h.Ns mainGlobals mg) (cd : He.SaysD fa fn K) (i j j2 : Nat) {p : PySem.W.Frag → Addr} (hi : fn[i]? = some ⟨(C, some "__init__"), "__init__", q, defArgs st, defBody st, defScope st, [.adr p], []⟩) (hj : fa[j]? = some (.mkr C)) (hj2 : fa[j2]? = some (.glo C))
    (hb : ∀ (T : Addr) (kV doc pm : Value) (an : Option Addr) (cdv ct : Value) (us its : List Value), us.length = 1 → its.length = [V.ref (p K)].length →
      ∃ k, bindArgs (PySem.W.fnOf "__init__" q (defArgs st) (defBody st) (defScope st) (.ref T) kV doc pm an cdv ct) ⟨us, []⟩ = seqItems? (.ref T) >>= k ∧ k (some its.toArray) = pure ((["self", "rows"] : List Str).zip (us ++ its.drop 0))) : ClassAt K mg (He.ga K C) C q st ["self", "rows"] [V.ref (p K)] := by
  obtain ⟨fd, F⟩ := cd.def_ i hi
  obtain ⟨ds, hv, B⟩ := FunD.binds1 (ps := ["self", "rows"]) F 1 0 (by simp [He.DefD.dvs, He.Dv.v]) rfl hb
  exact ⟨_, fd, ds, F, He.mkr_ok (cd.fact j hj), He.glo_ok X G (cd.fact j2 hj2), B, hv⟩
end
noncomputable def md63 {K : PySem.W.Frag} {h : Heap} {mg : Str → Option Value} {base : Heap} (X : K.In h) (G : h.Ns mainGlobals mg) (cd : He.SaysD fa63 fn63 K) (ce : ex63 K = true) (tb : ∀ p ∈ tf63.map (He.cT K), LamX.TabB base mg p.1 p.2) : Md K mg base where
  b := ⟨He.free_ok X G (cd.fact 0 (f := .free "len") rfl), He.free_ok X G (cd.fact 1 (f := .free "range") rfl), He.free_ok X G (cd.fact 2 (f := .free "sorted") rfl), He.free_ok X G (cd.fact 3 (f := .free "tuple") rfl), He.free_ok X G (cd.fact 4 (f := .free "list") rfl), He.free_ok X G (cd.fact 5 (f := .free "dict") rfl), He.free_ok X G (cd.fact 6 (f := .free "str") rfl), He.free_ok X G (cd.fact 7 (f := .free "int") rfl), He.free_ok X G (cd.fact 8 (f := .free "ord") rfl), He.free_ok X G (cd.fact 9 (f := .free "min") rfl), He.free_ok X G (cd.fact 10 (f := .free "max") rfl), He.free_ok X G (cd.fact 11 (f := .free "abs") rfl), He.free_ok X G (cd.fact 12 (f := .free "any") rfl), He.free_ok X G (cd.fact 13 (f := .free "sum") rfl), He.free_ok X G (cd.fact 14 (f := .free "map") rfl), He.free_ok X G (cd.fact 15 (f := .free "zip") rfl), He.free_ok X G (cd.fact 16 (f := .free "enumerate") rfl), He.free_ok X G (cd.fact 17 (f := .free "isinstance") rfl)⟩
  C_Store := He.ga K "Store"
  cl_Store := He.cls_ok (cd.fact 18 (f := .cls "Store") rfl)
  na_Store_pieces := He.noat_ok (cd.fact 19 (f := .noat "Store" "pieces") rfl)
  C_Days := He.ga K "Days"
  cl_Days := He.cls_ok (cd.fact 20 (f := .cls "Days") rfl)
  na_Days_store := He.noat_ok (cd.fact 21 (f := .noat "Days" "store") rfl)
  na_Days_times := He.noat_ok (cd.fact 22 (f := .noat "Days" "times") rfl)
  C_Rule := He.ga K "Rule"
  cl_Rule := He.cls_ok (cd.fact 23 (f := .cls "Rule") rfl)
  na_Rule_newest := He.noat_ok (cd.fact 24 (f := .noat "Rule" "newest") rfl)
  na_Rule_days := He.noat_ok (cd.fact 25 (f := .noat "Rule" "days") rfl)
  na_Rule_weeks := He.noat_ok (cd.fact 26 (f := .noat "Rule" "weeks") rfl)
  na_Rule_months := He.noat_ok (cd.fact 27 (f := .noat "Rule" "months") rfl)
  d_check_path := dAt X G cd 0 28 rfl rfl (fun _ _ _ _ _ _ us hl => match us, hl with | [_], _ => rfl)
  q_check_folder := (He.cT K ("check_folder", none)).1
  tab_check_folder := (He.cT K ("check_folder", none)).2
  tb_check_folder := let z := tb (He.cT K ("check_folder", none)) (List.mem_map.mpr ⟨("check_folder", none), by simp [tf63], rfl⟩)
    ⟨z.code, z.bm, z.gP⟩
  d_check_folder := dAtC X G cd 1 29 rfl rfl (fun _ _ _ _ _ _ us hl => match us, hl with | [_], _ => rfl)
  d_overs_of := dAt X G cd 2 30 rfl rfl (fun _ _ _ _ _ _ us hl => match us, hl with | [_], _ => rfl)
  d_names_in := dAt X G cd 3 31 rfl rfl (fun _ _ _ _ _ _ us hl => match us, hl with | [_, _], _ => rfl)
  d_part_of := dAt X G cd 4 32 rfl rfl (fun _ _ _ _ _ _ us hl => match us, hl with | [_, _], _ => rfl)
  d_figure := dAt X G cd 5 33 rfl rfl (fun _ _ _ _ _ _ us hl => match us, hl with | [_], _ => rfl)
  emp := He.dflAt ("Store", some "__init__") 0 K
  emp_t := fun _ => tupB_ok (ex63_2 ce)
  k_Store := kAtS X G cd 6 34 35 rfl rfl rfl (fun T kV doc pm an cdv ct us its h1 h2 => match us, h1, its, h2 with | [_], _, [_], _ => ⟨_, rfl, rfl⟩)
  md_Store_put := mAt cd 7 36 rfl rfl (fun _ _ _ _ _ _ us hl => match us, hl with | [_, _], _ => rfl)
  md_Store_get := mAt cd 8 37 rfl rfl (fun _ _ _ _ _ _ us hl => match us, hl with | [_, _], _ => rfl)
  md_Store_find := mAt cd 9 38 rfl rfl (fun _ _ _ _ _ _ us hl => match us, hl with | [_, _], _ => rfl)
  md_Store_drop := mAt cd 10 39 rfl rfl (fun _ _ _ _ _ _ us hl => match us, hl with | [_, _], _ => rfl)
  md_Store_names := mAt cd 11 40 rfl rfl (fun _ _ _ _ _ _ us hl => match us, hl with | [_], _ => rfl)
  d_check_bounds := dAt X G cd 12 41 rfl rfl (fun _ _ _ _ _ _ us hl => match us, hl with | [_, _, _], _ => rfl)
  d_sums := dAt X G cd 13 42 rfl rfl (fun _ _ _ _ _ _ us hl => match us, hl with | [_, _], _ => rfl)
  d_told := dAt X G cd 14 43 rfl rfl (fun _ _ _ _ _ _ us hl => match us, hl with | [_, _, _, _, _], _ => rfl)
  d_put_text := dAt X G cd 15 44 rfl rfl (fun _ _ _ _ _ _ us hl => match us, hl with | [_, _], _ => rfl)
  d_get_text := dAt X G cd 16 45 rfl rfl (fun _ _ _ _ _ _ us hl => match us, hl with | [_, _], _ => rfl)
  d_body := dAt X G cd 17 46 rfl rfl (fun _ _ _ _ _ _ us hl => match us, hl with | [_, _, _], _ => rfl)
  d_words_of := dAt X G cd 18 47 rfl rfl (fun _ _ _ _ _ _ us hl => match us, hl with | [_], _ => rfl)
  d_put_folder := dAt X G cd 19 48 rfl rfl (fun _ _ _ _ _ _ us hl => match us, hl with | [_, _], _ => rfl)
  d_rows_of := dAt X G cd 20 49 rfl rfl (fun _ _ _ _ _ _ us hl => match us, hl with | [_, _], _ => rfl)
  d_get_folder := dAt X G cd 21 50 rfl rfl (fun _ _ _ _ _ _ us hl => match us, hl with | [_, _], _ => rfl)
  d_needs := dAt X G cd 22 51 rfl rfl (fun _ _ _ _ _ _ us hl => match us, hl with | [_, _], _ => rfl)
  k_Days := kAt X G cd 23 52 53 rfl rfl rfl (fun _ _ _ _ _ _ us hl => match us, hl with | [_], _ => rfl)
  md_Days_keep := mAt cd 24 54 rfl rfl (fun _ _ _ _ _ _ us hl => match us, hl with | [_, _, _], _ => rfl)
  md_Days_give := mAt cd 25 55 rfl rfl (fun _ _ _ _ _ _ us hl => match us, hl with | [_, _], _ => rfl)
  md_Days_last_at := mAt cd 26 56 rfl rfl (fun _ _ _ _ _ _ us hl => match us, hl with | [_, _], _ => rfl)
  md_Days_forget := mAt cd 27 57 rfl rfl (fun _ _ _ _ _ _ us hl => match us, hl with | [_, _], _ => rfl)
  md_Days_needed := mAt cd 28 58 rfl rfl (fun _ _ _ _ _ _ us hl => match us, hl with | [_], _ => rfl)
  md_Days_sweep := mAt cd 29 59 rfl rfl (fun _ _ _ _ _ _ us hl => match us, hl with | [_], _ => rfl)
  md_Days_hurt := mAt cd 30 60 rfl rfl (fun _ _ _ _ _ _ us hl => match us, hl with | [_], _ => rfl)
  k_Rule := kAt X G cd 31 61 62 rfl rfl rfl (fun _ _ _ _ _ _ us hl => match us, hl with | [_, _, _, _, _], _ => rfl)
  md_Rule_parts := mAt cd 32 63 rfl rfl (fun _ _ _ _ _ _ us hl => match us, hl with | [_], _ => rfl)
  md_Rule_stays := mAt cd 33 64 rfl rfl (fun _ _ _ _ _ _ us hl => match us, hl with | [_, _], _ => rfl)
  md_Rule_goes := mAt cd 34 65 rfl rfl (fun _ _ _ _ _ _ us hl => match us, hl with | [_, _], _ => rfl)
  d_law_dice := dAt X G cd 35 66 rfl rfl (fun _ _ _ _ _ _ us hl => match us, hl with | [_], _ => rfl)
  d_law_roll := dAt X G cd 36 67 rfl rfl (fun _ _ _ _ _ _ us hl => match us, hl with | [_, _], _ => rfl)
  d_law_rounds := dAt X G cd 37 68 rfl rfl (fun _ _ _ _ _ _ us hl => match us, hl with | [_, _], _ => rfl)
  d_law_told := dAt X G cd 38 69 rfl rfl (fun _ _ _ _ _ _ us hl => match us, hl with | [_], _ => rfl)
  d_law_text := dAt X G cd 39 70 rfl rfl (fun _ _ _ _ _ _ us hl => match us, hl with | [_], _ => rfl)
  d_law_paths := dAt X G cd 40 71 rfl rfl (fun _ _ _ _ _ _ us hl => match us, hl with | [], _ => rfl)
  d_law_next := dAt X G cd 41 72 rfl rfl (fun _ _ _ _ _ _ us hl => match us, hl with | [_, _], _ => rfl)
  d_law_cut := dAt X G cd 42 73 rfl rfl (fun _ _ _ _ _ _ us hl => match us, hl with | [_], _ => rfl)
  d_law_inner := dAt X G cd 43 74 rfl rfl (fun _ _ _ _ _ _ us hl => match us, hl with | [_], _ => rfl)
  d_law_goes := dAt X G cd 44 75 rfl rfl (fun _ _ _ _ _ _ us hl => match us, hl with | [_, _], _ => rfl)
  d_law_swept := dAt X G cd 45 76 rfl rfl (fun _ _ _ _ _ _ us hl => match us, hl with | [_, _], _ => rfl)
  q_law_given := (He.cT K ("_law_given", none)).1
  tab_law_given := (He.cT K ("_law_given", none)).2
  tb_law_given := let z := tb (He.cT K ("_law_given", none)) (List.mem_map.mpr ⟨("_law_given", none), by simp [tf63], rfl⟩)
    ⟨z.code, z.bm, z.gP⟩
  d_law_given := dAtC X G cd 46 77 rfl rfl (fun _ _ _ _ _ _ us hl => match us, hl with | [_, _, _], _ => rfl)
  d_law_hurt := dAt X G cd 47 78 rfl rfl (fun _ _ _ _ _ _ us hl => match us, hl with | [_, _, _], _ => rfl)
  d_law := dAt X G cd 48 79 rfl rfl (fun _ _ _ _ _ _ us hl => match us, hl with | [_], _ => rfl)
  c_SIGNS := let ⟨t, e⟩ := He.str_ok X G (cd.fact 80 (f := .str "SIGNS" "abcdefghijklmnopqrstuvwxyz0123456789._-") rfl); ⟨_, e, t, rfl⟩
  c_BASE := let ⟨t, e⟩ := He.int_ok X G (cd.fact 81 (f := .int "BASE" 257) rfl); ⟨_, e, t, rfl⟩
  c_WIDE := let ⟨t, e⟩ := He.int_ok X G (cd.fact 82 (f := .int "WIDE" 1000003) rfl); ⟨_, e, t, rfl⟩
  a_BOUNDS := He.ga K "BOUNDS"
  c_BOUNDS := ⟨_, He.glo_ok X G (cd.fact 83 (f := .glo "BOUNDS") rfl), rfl⟩
  t_BOUNDS := fun _ => tupB_ok (ex63_1 ce)
  c_DAY := let ⟨t, e⟩ := He.int_ok X G (cd.fact 84 (f := .int "DAY" 24) rfl); ⟨_, e, t, rfl⟩
  c_WEEK := let ⟨t, e⟩ := He.int_ok X G (cd.fact 85 (f := .int "WEEK" 168) rfl); ⟨_, e, t, rfl⟩
  c_MONTH := let ⟨t, e⟩ := He.int_ok X G (cd.fact 86 (f := .int "MONTH" 672) rfl); ⟨_, e, t, rfl⟩
  NoSuch := He.ga K "NoSuch"
  g_NoSuch := He.glo_ok X G (cd.fact 88 (f := .glo "NoSuch") rfl)
  BadPiece := He.ga K "BadPiece"
  g_BadPiece := He.glo_ok X G (cd.fact 89 (f := .glo "BadPiece") rfl)
  Lost := He.ga K "Lost"
  g_Lost := He.glo_ok X G (cd.fact 90 (f := .glo "Lost") rfl)
  x_NoSuch := (He.exc_ok (cd.fact 87 (f := .exc "NoSuch") rfl)).1
  kp_NoSuch := (He.exc_ok (cd.fact 87 (f := .exc "NoSuch") rfl)).2.1
  b_NoSuch := (He.exc_ok (cd.fact 87 (f := .exc "NoSuch") rfl)).2.2.1
  t_NoSuch := (He.exc_ok (cd.fact 87 (f := .exc "NoSuch") rfl)).2.2.2
  i_NoSuch := ex63_3 ce
  xm_hurt := ex63_4 ce
  xm_told := ex63_5 ce
  s_NoSuch := ex63_6 ce

/-- a table that is known as one: told the other way round -/
def spEnd (K : PySem.W.Frag) (P0 P1 : Addr) : Sp := fun vs H Q _ => ∃ (a : Addr) (ns : List Int), vs = [.ref a] ∧ SqL K H a (ns.map V.int) ∧ H P0 = some (.tbl #[]) ∧ H P1 = some (.tbl #[]) ∧ ∀ H', Q (.bl true) H'
theorem fn_swap {P : Program} {w : World} {K : PySem.W.Frag} {mg : Str → Option Value} {base : Heap} {k : Nat} {f P0 P1 : Addr} {fd : FuncData} {ps : List Str} (hne : P0 ≠ P1) (F : FnOk P w K mg base (L2.CX P w) k f fd ps (spLaw K P0 P1)) (hl : ps.length = 1) : FnOk P w K mg base (L2.CX P w) k f fd ps (spEnd K P0 P1) := by
  refine ⟨fun vs H Q E h => ?_, fun A outer s H args us vs Q E hr e0 hb r h => ?_⟩
  · obtain ⟨a, ns, rfl, _⟩ := h
    exact hl.symm
  · obtain ⟨a, ns, rfl, ha, h0, h1, q⟩ := h
    have st : ∀ {b : Addr} {o : HO}, H b = some o → b ≠ P0 → L2.upd H P0 (.ext (tabF P0)) b = some o := fun hb hn => by rw [upd_ne hn]; exact hb
    have hok0 := e0.hok P0 _ h0
    have e1 : Env0 P w K mg base A outer s (L2.upd H P0 (.ext (tabF P0))) := by
      refine ⟨e0.frames, e0.mod, fun b o g => ?_, e0.bsz, e0.funs, fun b g => ?_, fun b o g => ?_, e0.bare⟩
      · obtain ⟨g1, g2⟩ := e0.bs b o g
        exact ⟨g1, by rw [upd_ne (fun z => by rw [z, h0] at g2; cases g2)]; exact g2⟩
      · have g2 := e0.frf b g
        rw [upd_ne (fun z => by rw [z, h0] at g2; cases g2)]; exact g2
      · by_cases z : b = P0
        · subst z
          rw [upd_same] at g
          cases g
          exact ⟨⟨#[], hok0, True.intro⟩, ⟨_, hok0⟩, fun h1 h2 ⟨ps, g, t⟩ k => ⟨ps, k _ g, t⟩⟩
        · rw [upd_ne z] at g
          exact (e0.hok b o g).stay (fun _ _ _ g => g) (fun c g => st g fun y => by rw [y, h0] at g; cases g) fun c xs g => st g fun y => by rw [y, h0] at g; cases g
    have ha' : SqL K (L2.upd H P0 (.ext (tabF P0))) a (ns.map V.int) := ha.elim (fun g => .inl (by
      have hn : a ≠ P0 := fun z => by
        rw [z] at g
        rcases g with g | ⟨o, g⟩ <;> rw [h0] at g <;> cases g
      rcases g with g | ⟨o, g⟩
      · exact .inl (st g hn)
      · exact .inr ⟨o, st g hn⟩)) .inr
    refine codeAny_mono (F.run A outer s _ args us _ (fun v H' => v = .bl true ∧ Tab P0 H') (fun _ _ _ => False) hr e1 hb r ⟨a, ns, rfl, ha', upd_same, LamX.TabS.nil (by rw [upd_ne (Ne.symm hne)]; exact h1), fun H' ht => ⟨rfl, ht⟩⟩) fun rr s' hq => ?_
    cases rr with
    | error e =>
      obtain ⟨_, _, _, _, _, _, _, _, _, _, _, _, z⟩ := (show L2.CX P w outer _ s (fun _ _ _ => False) e s' from hq)
      exact z.elim
    | ok fl =>
      cases fl with
      | ret u =>
        obtain ⟨v, H', c1, c2, un, hok, rv, rfl, ht⟩ := hq
        obtain ⟨ps, hps, htr⟩ := (show tabF P0 s'.heap from (hok P0 _ ht).1)
        have hb' : ∀ {b : Addr} {o : HO}, H b = some o → b ≠ P0 → L2.upd H P0 (.ext (tabF P0)) b = some o := st
        refine ⟨.bl true, L2.upd H' P0 (.tbl ps), c1, c2, ⟨fun b o g n => un.keep b o g (by rw [upd_ne (fun z => by rw [z, h0] at n; cases n)]; exact n), fun b o g n => un.slot b o g (by rw [upd_ne (fun z => by rw [z, h0] at n; cases n)]; exact n), fun b o g n x => ?_, un.there, fun b xs g => ?_, fun b o u g => ?_, fun b qs g => ?_⟩, fun b o g => ?_, rv, q _⟩
        · have hn : b ≠ P0 := fun z => by rw [z, h0] at n; cases n
          rw [upd_ne hn]
          exact un.free b o g (by rw [upd_ne hn]; exact n) x
        · have hn : b ≠ P0 := fun z => by rw [z, h0] at g; cases g
          rw [upd_ne hn]
          exact un.tups b xs (st g hn)
        · have hn : b ≠ P0 := fun z => by rw [z, h0] at g; cases g
          rw [upd_ne hn]
          exact un.frzs b o u (st g hn)
        · by_cases hn : b = P0
          · subst hn
            rw [h0] at g
            cases g
            exact ⟨ps, by rw [upd_same, Array.empty_append]⟩
          · rw [upd_ne hn]
            exact un.tbls b qs (st g hn)
        · by_cases z : b = P0
          · subst z
            rw [upd_same] at g
            cases g
            exact hps
          · rw [upd_ne z] at g
            have st2 : ∀ {c : Addr} {o : HO}, H' c = some o → c ≠ P0 → L2.upd H' P0 (.tbl ps) c = some o := fun hb hn => by rw [upd_ne hn]; exact hb
            exact (hok b o g).stay (fun _ _ _ g => g) (fun c g => st2 g fun y => by rw [y, show H' P0 = some (.ext (tabF P0)) from ht] at g; cases g) fun c xs g => st2 g fun y => by rw [y, show H' P0 = some (.ext (tabF P0)) from ht] at g; cases g
      | next => exact False.elim hq
      | brk => exact False.elim hq
      | cont => exact False.elim hq
theorem law_fn {P : Program} {w : World} {K : PySem.W.Frag} {mg : Str → Option Value} {base : Heap} {k : Nat} {f : Addr} {fd : FuncData} (T : Md K mg base) (hk : 14 ≤ k) (F : Fun K "law" "law" st_law f fd) : FnOk P w K mg base (L2.CX P w) (k + 1) f fd ["script"] (spLaw K T.P0 T.tab_law_given) :=
  F.okX sc_law (by rintro vs H Q E ⟨a, ns, rfl, -⟩; rfl) fun cdv A outer s H vs Q E hr h => body_x (law_body T hk) f cdv A outer s H vs Q E hr h
theorem end63 {l : PySem.W.OpenLaw} {w : World} {mg : Str → Option Value} {fa : Addr} {h : Heap} (Y : (He.hookX 6 fa63 fn63 [] tf63 ex63).says w h) (G : h.Ns mainGlobals mg) (hmg : mg ("law" : Str) = some (.ref fa)) : ∃ K : PySem.W.Frag, K.In h ∧ LamX.LawAtS l w K (L2.CX l.prog w) 15 63 "script" mg fa h := by
  obtain ⟨K, X, c⟩ := Y
  have cd : He.SaysD fa63 fn63 K := congrArg Prod.fst c.t
  obtain ⟨fd, FL⟩ := cd.def_ 48 (d := dd63 "law" st_law) rfl
  have e := hmg.symm.trans (He.glo_ok X G (cd.fact 79 (f := .glo "law") rfl))
  cases e
  refine ⟨K, X, fd, tf63.map (He.cT K), spEnd K (He.cT K ("check_folder", none)).2 (He.cT K ("_law_given", none)).2, ?_, ?_, ?_, ?_, ?_, ?_⟩
  · intro p hp
    obtain ⟨d, hd, rfl⟩ := List.mem_map.mp hp
    exact c.empty d hd
  · intro p hp
    obtain ⟨d, hd, rfl⟩ := List.mem_map.mp hp
    exact c.out d hd
  · intro p hp
    obtain ⟨d, hd, rfl⟩ := List.mem_map.mp hp
    exact PySem.W.codeHd_of_K X (c.hd d hd)
  · intro s u
    exact FunD.bindsA (ps := ["script"]) FL (fun _ _ _ _ _ _ us hl => match us, hl with | [_], _ => rfl) s [u] rfl
  · intro H a ns hl hb hT hS
    exact ⟨a, ns, rfl, hS, hT _ (List.mem_map.mpr ⟨("check_folder", none), by simp [tf63], rfl⟩), hT _ (List.mem_map.mpr ⟨("_law_given", none), by simp [tf63], rfl⟩), fun _ => rfl⟩
  · intro base X2 G2 tb
    exact fn_swap (ex63_7 c.more) (law_fn (k := 14) (md63 X G cd c.more tb) (by decide) (fun_of FL)) rfl
end Kw


set_option Elab.async false
set_option maxRecDepth 100000
/-! Fin63: the end. -/
open PySem PySem.W PyProof.Rows
set_option maxRecDepth 100000 in
set_option maxHeartbeats 0 in
theorem PySem.Challenge.cw_keepwright_k63_whole_days_at_any_size_holds : PySem.Challenge.rw_keepwright_k63_whole_days_at_any_size.Holds := by
  w_on; o_law; o_head (He.hookX 6 Kw.fa63 Kw.fn63 [] Kw.tf63 Kw.ex63); (case hw => w_witness2)
  k_fill
  refine LamX.walk_ofTsE (l := PySem.Challenge.rw_keepwright_k63_whole_days_at_any_size) (n := 63) (k := 15) (x := "script") (CX := fun w => L2.CX PySem.Challenge.rw_keepwright_k63_whole_days_at_any_size.prog w) rfl (by decide) rfl ⟨rfl, by decide, by decide⟩ ?F ?C
  case F =>
    intro w mg fa h Y G hmg
    exact Kw.end63 Y G hmg
  case C =>
    intro w H s e s' x
    obtain ⟨_, _, _, _, _, _, _, _, _, _, _, _, z⟩ := x
    exact z
#print axioms PySem.Challenge.cw_keepwright_k63_whole_days_at_any_size_holds
