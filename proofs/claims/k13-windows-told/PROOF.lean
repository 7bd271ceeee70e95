import PyProof.Rows.All
import Wide.All
import OpenK.AllK
import Wide.FinOn
import KE.KStateDown
import KE.KLam
import KE.KNest
import KE.KNestM
import KE.KExcSuper
import KE.KFromBytes
import KE.DataMinKey
import KE.SortKeyHeap
import HandS.ForMost
import HandS.Exc
import HandS.ExcOwn
import HandS.ExcInit
import HandS.WordsExc
import HandS.TryOnly
import HandS.More
import HandS.Flow
import HandS.FStr
import HandS.IsInst
import HandS.SetKeys
import HandS.Strs
import HandS.SortKw
import HandS.RaiseMore
import HandS.Lambda
import HandS.AnyAll
import HandS.EndTab
import HandS.Head0
import HandS.Head1
import HandS.Head2
import HandS.HeadEnd
import HandS.HeadHook1
import HandS.HeadHook2
import HandS.HeadHook3
import HandS.HeadHook4
import HandS.HeadWalk
import PySem.Challenge.RW_windowtable_k13_windows_told
set_option Elab.async false
set_option linter.all false
set_option maxRecDepth 100000
namespace K13
open PySem L2
def top (i : Nat) : Stmt := PySem.Challenge.pw_windowtable_k13_windows_told.main.body.getD i (.Pass ⟨0, 0, 0, 0⟩)
abbrev sBadI : Stmt := inClass (top 2) 0
abbrev sKey : Stmt := top 4
abbrev sMid : Stmt := top 7
abbrev sOfG : Stmt := top 8
abbrev sAgg : Stmt := top 9
abbrev sPla : Stmt := top 12
abbrev sWin (j : Nat) : Stmt := inClass (top 13) j
abbrev sCell : Stmt := top 15
abbrev sDig : Stmt := top 16
abbrev sDraw : Stmt := top 17
abbrev sSame : Stmt := top 18
abbrev sRank : Stmt := top 19
abbrev sVal : Stmt := top 20
abbrev sRef : Stmt := top 21
abbrev sMade : Stmt := top 22
abbrev sDrawn : Stmt := top 23
abbrev sLaw : Stmt := top 24
end K13
set_option Elab.async false
set_option linter.all false
set_option maxRecDepth 100000
set_option maxHeartbeats 4000000
/-! The head: what the top has written, told by names; the run of the top. -/
namespace K13
open PySem PySem.Spec PyProof.Rows L2
/-! ### facts of the error class, by a Bool -/
/-- an exception class over own classes and ValueError, made by ValueError.__new__, its instances have dicts -/
def badCls (K : PySem.W.Frag) (C : Addr) : Bool := match K.lookup C with
  | some ⟨.type "type", _, .cls cd, sl⟩ => (match cd.mro, sl.toList with
    | .ref C' :: bm, [_, _, _, _, some (.builtin n), _] => C' == C && (n == "ValueError.__new__" && (!cd.hasDel && (PySem.HandSPX.refsVE bm && cd.hasDict)))
    | _, _ => false)
  | _ => false
theorem badCls_ok {K : PySem.W.Frag} {C : Addr} (h : badCls K C = true) : ∃ nm q N bs bm sn sub ab col dd k0 k1 k2 k3 k5, K.lookup C = some (excClassObj nm q C N bs bm true sn sub ab col dd k0 k1 k2 k3 k5 "ValueError.__new__") ∧ PySem.HandSPX.refsVE bm = true := by
  unfold badCls at h
  split at h
  · rename_i dd cd sl ho
    split at h
    · rename_i C' bm k0 k1 k2 k3 n k5 hm hs
      obtain ⟨h1, h⟩ := He.ba h
      obtain ⟨h2, h⟩ := He.ba h
      obtain ⟨h3, h⟩ := He.ba h
      obtain ⟨h4, h5⟩ := He.ba h
      obtain rfl := beq_iff_eq.mp h1
      obtain rfl := beq_iff_eq.mp h2
      obtain ⟨nm, bs, mro, ns, qn, hd, sn, sub, ab, col, del⟩ := cd
      dsimp only at hm h3 h5
      subst hm h5
      have h6 : del = false := by
        cases del with
        | false => rfl
        | true => exact absurd h3 (by decide)
      subst h6
      have hsl : sl = #[k0, k1, k2, k3, some (.builtin "ValueError.__new__"), k5] := by
        obtain ⟨l⟩ := sl
        have e : l = [k0, k1, k2, k3, some (.builtin "ValueError.__new__"), k5] := hs
        rw [e]
      subst hsl
      exact ⟨nm, qn, ns, bs, bm, sn, sub, ab, col, dd, k0, k1, k2, k3, k5, ho, h4⟩
    · cases h
  · cases h
/-- a function without defaults; its code object tells the file, its closure is the class's cell alone -/
def cellB (K : PySem.W.Frag) (f C : Addr) (q file : Str) : Bool := match K.lookup f with
  | some ⟨_, _, .func fd, _⟩ => (match fd.closure, fd.code, fd.defaults with
    | [(_, cc)], .ref cda, .none => (match K.lookup cc with
      | some ⟨_, _, .cell (some (.ref D)), _⟩ => D == C
      | _ => false) && ((match K.lookup cda with
      | some ⟨_, _, .fields vs, _⟩ => (match vs[2]? with
        | some u => (match u with
          | Value.str fl _ => file == fl
          | _ => false)
        | none => false)
      | _ => false) && PySem.W.codeIn K (.ref cda) q)
    | _, _, _ => false)
  | _ => false
/-- what the proof asks of such a function -/
structure IniT (K : PySem.W.Frag) (f C : Addr) (name q file : Str) (ps : Arguments) (body : List Stmt) (sc : Scope) : Prop where
  ex : ∃ (oc : Value) (od : Option Addr) (kV doc pm : Value) (an : Option Addr) (ct : Value) (osl : Array (Option Value)) (cc cda : Addr) (c1 : Value) (c2 : Option Addr) (c3 : Array (Option Value)) (d1 : Value) (d2 : Option Addr) (d3 : Array (Option Value)) (vs : Array Value) (fl : Str) (tf : Tok),
    K.lookup f = some ⟨oc, od, .func (PySem.W.fnX name q ps body sc [("__class__", cc)] .none kV doc pm an (.ref cda) ct), osl⟩ ∧ PySem.W.codeIn K (.ref cda) q = true ∧
      K.lookup cc = some ⟨c1, c2, .cell (some (.ref C)), c3⟩ ∧ K.lookup cda = some ⟨d1, d2, .fields vs, d3⟩ ∧ vs[2]? = some (.str fl tf) ∧ (file == fl) = true
structure BadT (K : PySem.W.Frag) (C f : Addr) : Prop where
  cls : ∃ nm q N bs bm sn sub ab col dd k0 k1 k2 k3 k5, K.lookup C = some (excClassObj nm q C N bs bm true sn sub ab col dd k0 k1 k2 k3 k5 "ValueError.__new__") ∧ PySem.HandSPX.refsVE bm = true
  sa : PySem.W.findIn K (.ref C) "__setattr__" = some (some (.builtin "object.__setattr__"))
  ga : PySem.W.findIn K (.ref C) "__getattribute__" = some (some (.builtin "BaseException.__getattribute__"))
  gg : PySem.W.findIn K (.ref C) "__getattr__" = some none
  noN : PySem.W.findIn K (.ref C) "reason" = some none
  iC : PySem.W.findIn K (.ref C) "__init__" = some (some (.ref f))
  tC : PySem.W.typeIn K (.ref f) = some (.type "function")
  kC : PySem.W.keepIn K (.ref C) = true
  exC : PySem.W.subIn K (.ref C) (.type "BaseException") = some true
  veC : PySem.W.subIn K (.ref C) (.type "ValueError") = some true
  tyC : PySem.W.typeIn K (.ref C) = some (.type "type")
  hdC : PySem.W.hasDictIn K C = true
  te : PySem.W.exmOne K (.ref C) (.ref C) = some true
  mr : PySem.W.mroIn K C (.ref C) = some true
  su : PySem.W.ks_superIn K C C "__init__" = some (some (.builtin "ValueError.__init__"))
  op : PySem.W.nsIn K cStatics "thirdparty.any" = some none
def eqB (a b : Option Bool) : Bool := decide (a = b)
def badB (K : PySem.W.Frag) (C f : Addr) : Bool :=
  badCls K C && (He.eqO (PySem.W.findIn K (.ref C) "__setattr__") (some (some (.builtin "object.__setattr__"))) && (He.eqO (PySem.W.findIn K (.ref C) "__getattribute__") (some (some (.builtin "BaseException.__getattribute__"))) &&
  (He.eqO (PySem.W.findIn K (.ref C) "__getattr__") (some none) && (He.eqO (PySem.W.findIn K (.ref C) "reason") (some none) && (He.eqO (PySem.W.findIn K (.ref C) "__init__") (some (some (.ref f))) &&
  (decide (PySem.W.typeIn K (.ref f) = some (.type "function")) && (PySem.W.keepIn K (.ref C) && (decide (PySem.W.subIn K (.ref C) (.type "BaseException") = some true) && (decide (PySem.W.subIn K (.ref C) (.type "ValueError") = some true) &&
  (decide (PySem.W.typeIn K (.ref C) = some (.type "type")) && (PySem.W.hasDictIn K C && (decide (PySem.W.exmOne K (.ref C) (.ref C) = some true) && (decide (PySem.W.mroIn K C (.ref C) = some true) &&
  (He.eqO (PySem.W.ks_superIn K C C "__init__") (some (some (.builtin "ValueError.__init__"))) && He.eqO (PySem.W.nsIn K cStatics "thirdparty.any") (some none)))))))))))))))
theorem badB_ok {K : PySem.W.Frag} {C f : Addr} (h : badB K C f = true) : BadT K C f := by
  obtain ⟨h1, h⟩ := He.ba h
  obtain ⟨h2, h⟩ := He.ba h
  obtain ⟨h3, h⟩ := He.ba h
  obtain ⟨h4, h⟩ := He.ba h
  obtain ⟨h5, h⟩ := He.ba h
  obtain ⟨h6, h⟩ := He.ba h
  obtain ⟨h7, h⟩ := He.ba h
  obtain ⟨h8, h⟩ := He.ba h
  obtain ⟨h9, h⟩ := He.ba h
  obtain ⟨h10, h⟩ := He.ba h
  obtain ⟨h11, h⟩ := He.ba h
  obtain ⟨h12, h⟩ := He.ba h
  obtain ⟨h13, h⟩ := He.ba h
  obtain ⟨h14, h⟩ := He.ba h
  obtain ⟨h15, h16⟩ := He.ba h
  exact ⟨badCls_ok h1, He.eqO_ok h2, He.eqO_ok h3, He.eqO_ok h4, He.eqO_ok h5, He.eqO_ok h6, of_decide_eq_true h7, h8, of_decide_eq_true h9, of_decide_eq_true h10, of_decide_eq_true h11, h12, of_decide_eq_true h13, of_decide_eq_true h14, He.eqO_ok h15, He.eqO_ok h16⟩
/-! ### the hook -/
def frZ (g : Addr → Option Obj) (n : Nat) : PySem.W.Frag := He.frT g (cStatics :: He.asD g n)
/-- the error's own __init__: all but its cell's address -/
abbrev IniV : Type := Option (Str × Str × Arguments × FuncBody × Scope × Addr × List Str × Addr)
def iniV (K : PySem.W.Frag) : IniV := (He.fnW K ("BadArgument", some "__init__")).map fun (a, b, c, d, e, f, g, h) => (a, b, c, d, e, f, g.map (·.1), h)
def iniW : IniV := some ("__init__", "BadArgument.__init__", defArgs sBadI, .stmts (defBody sBadI), defScope sBadI, mainGlobals, ["__class__"], builtinsNs)
theorem iniT_of {K : PySem.W.Frag} {C : Addr} {file : Str} (e : iniV K = iniW) (h : cellB K (He.ma K (He.ga K "BadArgument") "__init__") C "BadArgument.__init__" file = true) :
    IniT K (He.ma K (He.ga K "BadArgument") "__init__") C "__init__" "BadArgument.__init__" file (defArgs sBadI) (defBody sBadI) (defScope sBadI) := by
  have ef : He.fAd K ("BadArgument", some "__init__") = He.ma K (He.ga K "BadArgument") "__init__" := rfl
  unfold iniV He.fnW at e
  rw [ef] at e
  unfold cellB at h
  cases hl : K.lookup (He.ma K (He.ga K "BadArgument") "__init__") with
  | none =>
    rw [hl] at h
    cases h
  | some o =>
    obtain ⟨oc, od, dt, osl⟩ := o
    rw [hl] at h e
    cases dt with
    | func fd =>
      obtain ⟨n1, n2, n3, n4, n5, n6, n7, n8, n9, n10, n11, n12, n13, n14, n15⟩ := fd
      have e2 : (some (n1, n2, n3, n4, n5, n6, n7.map (·.1), n15) : IniV) = iniW := e
      unfold iniW at e2
      simp only [Option.some.injEq, Prod.mk.injEq] at e2
      obtain ⟨h1, h2, h3, h4, h5, h6, h7, h8⟩ := e2
      subst h1 h2 h3 h4 h5 h6 h8
      dsimp only at h
      split at h
      · rename_i x cc cda
        have hx : x = ("__class__" : Str) := (List.cons.inj h7).1
        subst hx
        obtain ⟨a1, h⟩ := He.ba h
        obtain ⟨a2, a3⟩ := He.ba h
        cases hc : K.lookup cc with
        | none =>
          rw [hc] at a1
          cases a1
        | some oc1 =>
          rw [hc] at a1
          split at a1
          · rename_i c1 c2 D c3 qq
            cases qq
            obtain rfl := beq_iff_eq.mp a1
            cases hd : K.lookup cda with
            | none =>
              rw [hd] at a2
              cases a2
            | some od1 =>
              rw [hd] at a2
              split at a2
              · rename_i d1 d2 vs d3 qq2
                cases qq2
                split at a2
                · rename_i u hu
                  split at a2
                  · rename_i fl tf
                    exact ⟨oc, od, n9, n10, n11, n12, n14, osl, cc, cda, c1, c2, c3, d1, d2, d3, vs, fl, tf, hl, a3, hc, hd, hu, a2⟩
                  · cases a2
                · cases a2
              · cases a2
          · cases a1
      · cases h
    | _ => cases h
abbrev AlZ : Type := He.AlD × IniV × Bool
def obsZ (n : Nat) (fa : List He.Fa) (fn : List He.DefD) (tf : List He.Defn) (ex : PySem.W.Frag → Bool) (g : Addr → Option Obj) : AlZ := (He.obsD fa fn (frZ g n), iniV (frZ g n), ex (frZ g n) && He.tabsB g tf (frZ g n))
structure SaysZ (fa : List He.Fa) (fn : List He.DefD) (tf : List He.Defn) (ex : PySem.W.Frag → Bool) (h : Heap) (K : PySem.W.Frag) : Prop where
  d : He.SaysD fa fn K
  ini : iniV K = iniW
  more : ex K = true
  hd : ∀ p ∈ tf, PySem.W.codeHdIn K (He.cT K p).1 (He.cT K p).2 = true
  out : ∀ p ∈ tf, K.lookup (He.cT K p).2 = none
  empty : ∀ p ∈ tf, h.get? (He.cT K p).2 = some { cls := .none, data := .fields #[] }
theorem saysZ_of {n : Nat} {fa : List He.Fa} {fn : List He.DefD} {tf : List He.Defn} {ex : PySem.W.Frag → Bool} {h : Heap} (e : obsZ n fa fn tf ex h.get? = (He.valD fn, iniW, true)) : SaysZ fa fn tf ex h (frZ h.get? n) := by
  have e1 : He.obsD fa fn (frZ h.get? n) = He.valD fn := congrArg (fun z : AlZ => z.1) e
  have e2 : iniV (frZ h.get? n) = iniW := congrArg (fun z : AlZ => z.2.1) e
  have e3 : (ex (frZ h.get? n) && He.tabsB h.get? tf (frZ h.get? n)) = true := congrArg (fun z : AlZ => z.2.2) e
  obtain ⟨h1, h2⟩ := He.ba e3
  have at_ : ∀ p ∈ tf, PySem.W.codeHdIn (frZ h.get? n) (He.cT (frZ h.get? n) p).1 (He.cT (frZ h.get? n) p).2 = true ∧ ∃ o, h.get? (He.cT (frZ h.get? n) p).2 = some o ∧ He.emptyTab o = true := fun p hp => by
    obtain ⟨a, b⟩ := He.ba (List.all_eq_true.mp h2 p hp)
    refine ⟨a, ?_⟩
    split at b
    · rename_i o q
      exact ⟨o, q, b⟩
    · cases b
  refine ⟨e1, e2, h1, fun p hp => (at_ p hp).1, fun p hp => ?_, fun p hp => ?_⟩
  · obtain ⟨_, o, q, z⟩ := at_ p hp
    exact He.frT_none q z
  · obtain ⟨_, o, q, z⟩ := at_ p hp
    rw [q, He.emptyTab_eq z]
def hookZ (n : Nat) (fa : List He.Fa) (fn : List He.DefD) (tf : List He.Defn) (ex : PySem.W.Frag → Bool) : PySem.W.Hook where
  α := AlZ
  obs := fun s => obsZ n fa fn tf ex s.heap.get?
  val := fun _ => (He.valD fn, iniW, true)
  says := fun _ h => ∃ K : PySem.W.Frag, K.In h ∧ SaysZ fa fn tf ex h K
  of := fun _ _ e => ⟨_, He.frT_in, saysZ_of e⟩
  keeps := fun _ _ _ ⟨K, hK, c⟩ k => ⟨K, hK.keeps k, c.d, c.ini, c.more, c.hd, c.out, fun p hp => k _ _ (c.empty p hp)⟩
theorem obsZ_eq {n : Nat} {fa : List He.Fa} {fn : List He.DefD} {tf : List He.Defn} {ex : PySem.W.Frag → Bool} {g : Addr → Option Obj} {s : Shared} (h : ∀ a, g a = s.heap.get? a) : obsZ n fa fn tf ex g = (hookZ n fa fn tf ex).obs s := by
  have e : g = s.heap.get? := funext h
  rw [e]
  rfl
/-! ### this program's facts -/
def dfn (x : Str) (st : Stmt) : He.DefD := ⟨(x, none), x, x, defArgs st, defBody st, defScope st, [], []⟩
def mth (m q : Str) (j : Nat) : He.DefD := ⟨("Window", some m), m, q, defArgs (sWin j), defBody (sWin j), defScope (sWin j), [], []⟩
def fns : List He.DefD := [dfn "key_of" sKey, dfn "middle" sMid, dfn "of_given" sOfG, dfn "aggregate" sAgg, dfn "place_in" sPla,
  mth "__init__" "Window.__init__" 0, mth "add" "Window.add" 1, mth "drop" "Window.drop" 2, mth "size" "Window.size" 3, mth "end_value" "Window.end_value" 4, mth "given_value" "Window.given_value" 5, mth "told" "Window.told" 6,
  dfn "_law_cell" sCell, dfn "_law_digits" sDig, dfn "_law_draw" sDraw, dfn "_law_same" sSame, dfn "_law_rank" sRank, dfn "_law_of_values" sVal, dfn "_law_refused" sRef, dfn "_law_made" sMade, dfn "_law_drawn" sDrawn, dfn "law" sLaw]
def glos : List Str := ["key_of", "middle", "of_given", "aggregate", "place_in", "Window", "BadArgument", "AGGREGATES", "NO_TEXTS", "_law_cell", "_law_digits", "_law_draw", "_law_same", "_law_rank", "_law_of_values", "_law_refused", "_law_made", "_law_drawn", "law"]
def frees : List Str := ["len", "isinstance", "str", "sorted", "any", "min", "max", "sum", "set", "range", "int", "list", "repr", "super"]
def flds : List Str := ["function", "row", "begin", "ascending", "many", "total"]
def meths : List Str := ["add", "drop", "size", "end_value", "given_value", "told"]
def facts : List He.Fa := glos.map .glo ++ frees.map .free ++ [.cls "Window", .mkr "Window"] ++ flds.map (.noat "Window") ++ meths.map (.meth "Window")
def tabs : List He.Defn := [("middle", none), ("of_given", none), ("aggregate", none)]
def nine : List He.Dv := [.str "size", .str "count", .str "different", .str "sum", .str "least", .str "greatest", .str "median", .str "first", .str "last"]
def two : List He.Dv := [.str "sum", .str "median"]
def exB (K : PySem.W.Frag) : Bool := badB K (He.ga K "BadArgument") (He.ma K (He.ga K "BadArgument") "__init__") && (cellB K (He.ma K (He.ga K "BadArgument") "__init__") (He.ga K "BadArgument") "BadArgument.__init__" (PySem.Challenge.pw_windowtable_k13_windows_told.main.file) &&
  (He.tupB K "AGGREGATES" nine && (He.tupB K "NO_TEXTS" two && (decide ((He.cT K ("middle", none)).2 ≠ (He.cT K ("of_given", none)).2) && (decide ((He.cT K ("middle", none)).2 ≠ (He.cT K ("aggregate", none)).2) && decide ((He.cT K ("of_given", none)).2 ≠ (He.cT K ("aggregate", none)).2))))))
end K13
set_option Elab.async false
set_option linter.all false
set_option maxRecDepth 100000
set_option maxHeartbeats 0
/-! The run of the top, by one kernel reduction. -/
namespace K13
open PySem PySem.Spec PyProof.Rows L2
abbrev R : PySem.W.OpenRow := PySem.W.OpenLaw.row PySem.Challenge.rw_windowtable_k13_windows_told
abbrev hk : PySem.W.Hook := hookZ 6 facts fns tabs exB
def ob (s : PySem.W.SharedT) : AlZ := obsZ 6 facts fns tabs exB (HandSHeadRun.getT s)
theorem ob_eq (s : PySem.W.SharedT) : ob s = hk.obs s.abs := obsZ_eq (HandSHeadRun.getT_eq s)
def looseN : List PySem.Str := ["TableError", "BadArgument", "key_of", "AGGREGATES", "middle", "of_given", "aggregate", "NO_TEXTS", "place_in", "Window", "_law_cell", "_law_digits", "_law_draw", "_law_same", "_law_rank", "_law_of_values", "_law_refused", "_law_made", "_law_drawn"]
theorem run (w : World) : HandSHeadRun.RunEq R (PySem.W.view R.prog [24]) hk ob 3000 looseN w := by
  intro os
  kernel_rfl
end K13
set_option Elab.async false
set_option linter.all false
set_option maxRecDepth 100000
set_option maxHeartbeats 4000000
/-! Plain mathematics: the order of values, sorted insertion and erasure, distinct ones, counts, sums, least and greatest. -/
namespace K13
open PySem L2
instance (priority := 10000) keyB : BEq Key := ⟨fun a b => decide (a = b)⟩
instance (priority := 10000) keyL : LawfulBEq Key where
  eq_of_beq := fun {a b} h => of_decide_eq_true (show decide (a = b) = true from h)
  rfl := fun {a} => show decide (a = a) = true from decide_eq_true rfl
/-! ### the order of values -/
def klt : Key → Key → Bool
  | .inl i, .inl j => decide (i < j)
  | .inl _, .inr _ => true
  | .inr _, .inl _ => false
  | .inr x, .inr y => decide (x.cps.toList < y.cps.toList)
theorem klt_irrefl (a : Key) : klt a a = false := by
  cases a with
  | inl i => exact decide_eq_false (Int.lt_irrefl i)
  | inr x => exact decide_eq_false (List.lt_irrefl _)
theorem klt_trans {a b c : Key} (h : klt a b = true) (g : klt b c = true) : klt a c = true := by
  cases a with
  | inl i => cases b with
    | inl j => cases c with
      | inl k => exact decide_eq_true (Int.lt_trans (of_decide_eq_true h) (of_decide_eq_true g))
      | inr y => rfl
    | inr x => cases c with
      | inl k => exact absurd g Bool.false_ne_true
      | inr y => rfl
  | inr x => cases b with
    | inl j => exact absurd h Bool.false_ne_true
    | inr y => cases c with
      | inl k => exact absurd g Bool.false_ne_true
      | inr z => exact decide_eq_true (List.lt_trans (of_decide_eq_true h) (of_decide_eq_true g))
theorem klt_anti {a b : Key} (h : klt a b = false) (g : klt b a = false) : a = b := by
  cases a with
  | inl i => cases b with
    | inl j =>
      have h1 : ¬ i < j := of_decide_eq_false h
      have h2 : ¬ j < i := of_decide_eq_false g
      have e : i = j := by omega
      rw [e]
    | inr x => exact absurd h Bool.true_eq_false.mp
  | inr x => cases b with
    | inl j => exact absurd g Bool.true_eq_false.mp
    | inr y =>
      have h1 : ¬ x.cps.toList < y.cps.toList := of_decide_eq_false h
      have h2 : ¬ y.cps.toList < x.cps.toList := of_decide_eq_false g
      have e : x.cps.toList = y.cps.toList := List.le_antisymm (List.not_lt.mp h2) (List.not_lt.mp h1)
      obtain ⟨u⟩ := x
      obtain ⟨v⟩ := y
      have e2 : u = v := Array.toList_inj.mp e
      rw [e2]
theorem klt_asymm {a b : Key} (h : klt a b = true) : klt b a = false := by
  cases q : klt b a with
  | false => rfl
  | true =>
    have z := klt_trans h q
    rw [klt_irrefl] at z
    exact absurd z Bool.false_ne_true
/-- not behind is handed on -/
theorem kle_trans {a b c : Key} (h : klt b a = false) (g : klt c b = false) : klt c a = false := by
  cases q : klt c a with
  | false => rfl
  | true =>
    cases r : klt b c with
    | true =>
      have z := klt_trans r q
      rw [h] at z
      exact absurd z Bool.false_ne_true
    | false =>
      have e := klt_anti r g
      rw [e, q] at h
      exact absurd h Bool.true_eq_false.mp
def kle (a b : Key) : Bool := !klt b a
/-- ascending -/
abbrev Asc (l : List Key) : Prop := l.Pairwise fun a b => klt b a = false
def srt (l : List Key) : List Key := l.mergeSort kle
theorem srt_perm (l : List Key) : (srt l).Perm l := List.mergeSort_perm l kle
theorem srt_asc (l : List Key) : Asc (srt l) := by
  have h : (l.mergeSort kle).Pairwise fun a b => kle a b = true := List.pairwise_mergeSort (le := kle) (fun a b c h1 h2 => by
    have h1' : klt b a = false := by simpa [kle] using h1
    have h2' : klt c b = false := by simpa [kle] using h2
    have h3 := kle_trans h1' h2'
    simpa [kle] using h3) (fun a b => by
    cases q : klt b a with
    | false => simp [kle, q]
    | true => simp [kle, klt_asymm q]) l
  exact h.imp fun {a b} e => by simpa [kle] using e
theorem asc_one : ∀ {l m : List Key}, Asc l → Asc m → l.Perm m → l = m
  | [], m, _, _, p => p.nil_eq
  | a :: l, [], _, _, p => by
    have z := p.length_eq
    simp at z
  | a :: l, b :: m, hl, hm, p => by
    obtain ⟨hl1, hl2⟩ := List.pairwise_cons.mp hl
    obtain ⟨hm1, hm2⟩ := List.pairwise_cons.mp hm
    have e : a = b := by
      have ha : a ∈ b :: m := p.mem_iff.mp List.mem_cons_self
      have hb : b ∈ a :: l := p.mem_iff.mpr List.mem_cons_self
      rcases List.mem_cons.mp ha with e | ha
      · exact e
      · rcases List.mem_cons.mp hb with e | hb
        · exact e.symm
        · exact klt_anti (hm1 a ha) (hl1 b hb)
    subst e
    rw [asc_one hl2 hm2 ((List.perm_cons a).mp p)]
theorem srt_is {l m : List Key} (h : Asc m) (p : m.Perm l) : m = srt l := asc_one h (srt_asc l) (p.trans (srt_perm l).symm)
theorem srt_length (l : List Key) : (srt l).length = l.length := (srt_perm l).length_eq
/-- p is the place for k in m -/
structure Place (m : List Key) (k : Key) (p : Nat) : Prop where
  le : p ≤ m.length
  lo : ∀ (i : Nat) (x : Key), i < p → m[i]? = some x → klt x k = true
  hi : ∀ (i : Nat) (x : Key), p ≤ i → m[i]? = some x → klt x k = false
theorem place_take {m : List Key} {k : Key} {p : Nat} (h : Place m k p) : ∀ x ∈ m.take p, klt x k = true := fun x hx => by
  obtain ⟨i, hi⟩ := List.mem_iff_getElem?.mp hx
  rw [List.getElem?_take] at hi
  by_cases q : i < p
  · rw [if_pos q] at hi
    exact h.lo i x q hi
  · rw [if_neg q] at hi
    cases hi
theorem place_drop {m : List Key} {k : Key} {p : Nat} (h : Place m k p) : ∀ x ∈ m.drop p, klt x k = false := fun x hx => by
  obtain ⟨i, hi⟩ := List.mem_iff_getElem?.mp hx
  rw [List.getElem?_drop] at hi
  exact h.hi (p + i) x (Nat.le_add_right _ _) hi
theorem srt_insert {l : List Key} {k : Key} {p : Nat} (h : Place (srt l) k p) : (srt l).take p ++ [k] ++ (srt l).drop p = srt (l ++ [k]) := by
  have ha := srt_asc l
  have e : (srt l).take p ++ (srt l).drop p = srt l := List.take_append_drop p _
  have ha2 : Asc ((srt l).take p ++ (srt l).drop p) := by rw [e]; exact ha
  obtain ⟨a1, a2, a3⟩ := List.pairwise_append.mp ha2
  have ht := place_take h
  have hd := place_drop h
  refine srt_is ?_ ?_
  · rw [List.append_assoc]
    refine List.pairwise_append.mpr ⟨a1, List.pairwise_append.mpr ⟨List.pairwise_singleton _ _, a2, fun x hx y hy => ?_⟩, fun x hx y hy => ?_⟩
    · rw [List.mem_singleton.mp hx]
      exact hd y hy
    · rcases List.mem_append.mp hy with hy | hy
      · rw [List.mem_singleton.mp hy]
        exact klt_asymm (ht x hx)
      · exact a3 x hx y hy
  · have p1 : ((srt l).take p ++ [k] ++ (srt l).drop p).Perm (((srt l).take p ++ (srt l).drop p) ++ [k]) := by
      rw [List.append_assoc, List.append_assoc]
      exact List.Perm.append_left _ List.perm_append_comm
    rw [e] at p1
    exact p1.trans ((srt_perm l).append_right _)
theorem place_at {l : List Key} {k : Key} {p : Nat} (h : Place (srt l) k p) (hk : k ∈ l) : (srt l)[p]? = some k := by
  have hm : k ∈ srt l := (srt_perm l).mem_iff.mpr hk
  obtain ⟨j, hj⟩ := List.mem_iff_getElem?.mp hm
  have hpj : p ≤ j := by
    cases Nat.lt_or_ge j p with
    | inl q =>
      have z := h.lo j k q hj
      rw [klt_irrefl] at z
      exact absurd z Bool.false_ne_true
    | inr q => exact q
  have hjl : j < (srt l).length := (List.getElem?_eq_some_iff.mp hj).1
  have hpl : p < (srt l).length := Nat.lt_of_le_of_lt hpj hjl
  have e1 : (srt l)[p]? = some (srt l)[p] := List.getElem?_eq_getElem hpl
  have h1 := h.hi p _ (Nat.le_refl _) e1
  have h2 : klt k (srt l)[p] = false := by
    by_cases q : p = j
    · subst q
      rw [e1] at hj
      have z := Option.some.inj hj
      rw [z]
      exact klt_irrefl k
    · have z := List.pairwise_iff_getElem.mp (srt_asc l) p j hpl hjl (by omega)
      have ej : (srt l)[j] = k := (List.getElem?_eq_some_iff.mp hj).2
      rw [ej] at z
      exact z
  rw [e1, klt_anti h1 h2]
theorem srt_erase {l : List Key} {k : Key} {p : Nat} (h : Place (srt (k :: l)) k p) : (srt (k :: l)).eraseIdx p = srt l := by
  have e := place_at h List.mem_cons_self
  obtain ⟨hp, ep⟩ := List.getElem?_eq_some_iff.mp e
  refine srt_is ((srt_asc _).sublist (List.eraseIdx_sublist _ _)) ?_
  have e2 : (srt (k :: l)).eraseIdx p = (srt (k :: l)).take p ++ (srt (k :: l)).drop (p + 1) := List.eraseIdx_eq_take_drop_succ _ _
  have e3 : srt (k :: l) = (srt (k :: l)).take p ++ k :: (srt (k :: l)).drop (p + 1) := by
    have z := List.take_append_drop p (srt (k :: l))
    rw [List.drop_eq_getElem_cons hp, ep] at z
    exact z.symm
  have p1 : (k :: (srt (k :: l)).eraseIdx p).Perm (k :: l) := by
    refine List.Perm.trans ?_ (srt_perm (k :: l))
    rw [e2]
    refine List.Perm.trans List.perm_middle.symm ?_
    rw [← e3]
  exact (List.perm_cons k).mp p1
theorem srt_nil : srt [] = [] := List.Perm.eq_nil (srt_perm [])
/-! ### different ones -/
def uniq (l : List Key) : List Key := l.foldl (fun σ k => if σ.any (· == k) then σ else σ ++ [k]) []
theorem uniq_snoc (l : List Key) (k : Key) : uniq (l ++ [k]) = if (uniq l).any (· == k) then uniq l else uniq l ++ [k] := by
  unfold uniq
  rw [List.foldl_append]
  rfl
theorem any_mem (σ : List Key) (k : Key) : σ.any (· == k) = true ↔ k ∈ σ := by
  rw [List.any_eq_true]
  constructor
  · rintro ⟨x, hx, e⟩
    rw [← eq_of_beq e]
    exact hx
  · intro h
    exact ⟨k, h, beq_self_eq_true k⟩
theorem rev_ind {P : List Key → Prop} (h0 : P []) (h1 : ∀ l k, P l → P (l ++ [k])) (l : List Key) : P l := by
  have key : ∀ m : List Key, P m.reverse := fun m => by
    induction m with
    | nil => exact h0
    | cons a m ih =>
      rw [List.reverse_cons]
      exact h1 _ _ ih
  have z := key l.reverse
  rw [List.reverse_reverse] at z
  exact z
theorem uniq_mem (l : List Key) : ∀ k, k ∈ uniq l ↔ k ∈ l := by
  refine rev_ind (P := fun l => ∀ k, k ∈ uniq l ↔ k ∈ l) (fun k => Iff.rfl) (fun l a ih k => ?_) l
  rw [uniq_snoc]
  by_cases q : (uniq l).any (· == a) = true
  · rw [if_pos q, ih k]
    constructor
    · intro h
      exact List.mem_append_left _ h
    · intro h
      rcases List.mem_append.mp h with h | h
      · exact h
      · rw [List.mem_singleton.mp h]
        exact (ih a).mp ((any_mem _ _).mp q)
  · rw [if_neg q, List.mem_append, List.mem_append, ih k]
theorem uniq_nodup (l : List Key) : (uniq l).Nodup := by
  refine rev_ind (P := fun l => (uniq l).Nodup) List.nodup_nil (fun l a ih => ?_) l
  rw [uniq_snoc]
  by_cases q : (uniq l).any (· == a) = true
  · rw [if_pos q]
    exact ih
  · rw [if_neg q]
    refine List.nodup_append.mpr ⟨ih, (by simp), fun x hx y hy e => q ?_⟩
    rw [List.mem_singleton.mp hy] at e
    rw [e] at hx
    exact (any_mem _ _).mpr hx
theorem nodup_len {l m : List Key} (hl : l.Nodup) (hm : m.Nodup) (h : ∀ k, k ∈ l ↔ k ∈ m) : l.length = m.length :=
  ((List.perm_ext_iff_of_nodup hl hm).mpr h).length_eq
theorem uniq_length (l : List Key) : (uniq l).length ≤ l.length := by
  refine rev_ind (P := fun l => (uniq l).length ≤ l.length) (Nat.le_refl _) (fun l a ih => ?_) l
  rw [uniq_snoc, List.length_append, List.length_singleton]
  by_cases q : (uniq l).any (· == a) = true
  · rw [if_pos q]
    omega
  · rw [if_neg q, List.length_append, List.length_singleton]
    omega
theorem uniq_perm {l m : List Key} (p : l.Perm m) : (uniq l).length = (uniq m).length :=
  nodup_len (uniq_nodup l) (uniq_nodup m) fun k => by rw [uniq_mem, uniq_mem, p.mem_iff]
/-! ### how often -/
structure Many (kvs : List (Key × V)) (l : List Key) : Prop where
  nd : (kvs.map (·.1)).Nodup
  val : ∀ k, valV kvs k = if k ∈ l then some (V.int (l.count k : Nat)) else none
theorem val_mem {kvs : List (Key × V)} {k : Key} : k ∈ kvs.map (·.1) ↔ (valV kvs k).isSome = true := by
  unfold valV
  rw [Option.isSome_map, List.find?_isSome, List.mem_map]
  constructor
  · rintro ⟨p, hp, e⟩
    exact ⟨p, hp, decide_eq_true e⟩
  · rintro ⟨p, hp, e⟩
    exact ⟨p, hp, of_decide_eq_true e⟩
theorem Many.mem {kvs : List (Key × V)} {l : List Key} (h : Many kvs l) (k : Key) : k ∈ kvs.map (·.1) ↔ k ∈ l := by
  rw [val_mem, h.val k]
  by_cases q : k ∈ l
  · rw [if_pos q]
    simp [q]
  · rw [if_neg q]
    simp [q]
theorem Many.length {kvs : List (Key × V)} {l : List Key} (h : Many kvs l) : kvs.length = (uniq l).length := by
  have z := nodup_len h.nd (uniq_nodup l) fun k => by rw [h.mem k, uniq_mem]
  rw [List.length_map] at z
  exact z
theorem Many.nil : Many [] [] := ⟨List.nodup_nil, fun k => rfl⟩
theorem put_any {kvs : List (Key × V)} {k : Key} : (kvs.any fun kv => decide (kv.1 = k)) = true ↔ k ∈ kvs.map (·.1) := by
  rw [List.any_eq_true, List.mem_map]
  constructor
  · rintro ⟨p, hp, e⟩
    exact ⟨p, hp, of_decide_eq_true e⟩
  · rintro ⟨p, hp, e⟩
    exact ⟨p, hp, decide_eq_true e⟩
theorem put_keys (kvs : List (Key × V)) (k : Key) (v : V) : (putK kvs k v).map (·.1) = if k ∈ kvs.map (·.1) then kvs.map (·.1) else kvs.map (·.1) ++ [k] := by
  unfold putK
  by_cases q : k ∈ kvs.map (·.1)
  · rw [if_pos (put_any.mpr q), if_pos q, List.map_map]
    refine List.map_congr_left fun p hp => ?_
    show (if p.1 = k then (p.1, v) else p).1 = p.1
    by_cases e : p.1 = k
    · rw [if_pos e]
    · rw [if_neg e]
  · rw [if_neg (fun z => q (put_any.mp z)), if_neg q, List.map_append]
    rfl
theorem find_map {k j : Key} {v : V} : ∀ kvs : List (Key × V), ((kvs.map fun kv => if kv.1 = k then (kv.1, v) else kv).find? fun kv => decide (kv.1 = j)).map (·.2) = if j = k then ((kvs.find? fun kv => decide (kv.1 = j)).map fun _ => v) else (kvs.find? fun kv => decide (kv.1 = j)).map (·.2)
  | [] => by
    by_cases e : j = k
    · rw [if_pos e] <;> rfl
    · rw [if_neg e] <;> rfl
  | (a, b) :: r => by
    have ih := find_map (k := k) (j := j) (v := v) r
    rw [List.map_cons, List.find?_cons, List.find?_cons]
    by_cases e1 : a = k
    · rw [show (if (a, b).1 = k then ((a, b).1, v) else (a, b)) = (a, v) from if_pos e1]
      by_cases e2 : a = j
      · have e3 : j = k := e2.symm.trans e1
        have d1 : decide (a = j) = true := decide_eq_true e2
        show Option.map _ (match decide (a = j) with | true => some (a, v) | false => _) = if j = k then Option.map _ (match decide (a = j) with | true => some (a, b) | false => _) else _
        rw [d1, if_pos e3] <;> rfl
      · have d1 : decide (a = j) = false := decide_eq_false e2
        show Option.map _ (match decide (a = j) with | true => some (a, v) | false => _) = if j = k then Option.map _ (match decide (a = j) with | true => some (a, b) | false => _) else Option.map _ (match decide (a = j) with | true => some (a, b) | false => _)
        rw [d1]
        exact ih
    · rw [show (if (a, b).1 = k then ((a, b).1, v) else (a, b)) = (a, b) from if_neg e1]
      by_cases e2 : a = j
      · have e3 : ¬ j = k := fun z => e1 (e2.trans z)
        have d2 : decide ((a, b).1 = j) = true := decide_eq_true e2
        rw [d2, if_neg e3]
      · have d2 : decide ((a, b).1 = j) = false := decide_eq_false e2
        rw [d2]
        exact ih
theorem find_isSome {kvs : List (Key × V)} {j : Key} : (kvs.find? fun kv => decide (kv.1 = j)).isSome = true ↔ j ∈ kvs.map (·.1) := by
  rw [val_mem]
  unfold valV
  rw [Option.isSome_map]
theorem put_val (kvs : List (Key × V)) (k : Key) (v : V) (j : Key) : valV (putK kvs k v) j = if j = k then some v else valV kvs j := by
  unfold putK
  by_cases q : k ∈ kvs.map (·.1)
  · rw [if_pos (put_any.mpr q)]
    have z := find_map (k := k) (j := j) (v := v) kvs
    unfold valV
    rw [z]
    by_cases e : j = k
    · rw [if_pos e, if_pos e]
      obtain ⟨p, hp⟩ := Option.isSome_iff_exists.mp ((find_isSome (kvs := kvs) (j := j)).mpr (by rw [e]; exact q))
      rw [hp] <;> rfl
    · rw [if_neg e, if_neg e]
  · rw [if_neg (fun z => q (put_any.mp z))]
    unfold valV
    rw [List.find?_append]
    by_cases e : j = k
    · rw [if_pos e]
      have hn : (kvs.find? fun kv => decide (kv.1 = j)) = none := by
        cases h : (kvs.find? fun kv => decide (kv.1 = j)) with
        | none => rfl
        | some p =>
          have y := find_isSome.mp (by rw [h]; rfl)
          rw [e] at y
          exact absurd y q
      rw [hn, Option.none_or, List.find?_cons]
      have d : decide ((k, v).1 = j) = true := decide_eq_true e.symm
      rw [d] <;> rfl
    · rw [if_neg e, List.find?_cons]
      have d : decide ((k, v).1 = j) = false := decide_eq_false (fun z => e z.symm)
      rw [d, List.find?_nil, Option.or_none]
theorem drop_val (kvs : List (Key × V)) (k j : Key) : valV (dropK kvs k) j = if j = k then none else valV kvs j := by
  unfold dropK valV
  induction kvs with
  | nil =>
    by_cases e : j = k
    · rw [if_pos e] <;> rfl
    · rw [if_neg e] <;> rfl
  | cons p r ih =>
    by_cases e1 : p.1 = k
    · have d : decide (p.1 ≠ k) = false := decide_eq_false (fun z => z e1)
      rw [List.filter_cons, d, if_neg Bool.false_ne_true, ih]
      by_cases e : j = k
      · rw [if_pos e, if_pos e]
      · rw [if_neg e, if_neg e, List.find?_cons]
        have d2 : decide (p.1 = j) = false := decide_eq_false (fun z => e (z.symm.trans e1))
        rw [d2]
    · have d : decide (p.1 ≠ k) = true := decide_eq_true e1
      rw [List.filter_cons, d, if_pos rfl, List.find?_cons]
      by_cases e2 : p.1 = j
      · have d2 : decide (p.1 = j) = true := decide_eq_true e2
        have e3 : ¬ j = k := fun z => e1 (e2.trans z)
        rw [d2, if_neg e3, List.find?_cons, d2]
      · have d2 : decide (p.1 = j) = false := decide_eq_false e2
        rw [d2, List.find?_cons, d2]
        exact ih
theorem drop_keys (kvs : List (Key × V)) (k : Key) : ((dropK kvs k).map (·.1)).Sublist (kvs.map (·.1)) := List.filter_sublist.map _
theorem count_snoc (l : List Key) (k j : Key) : (l ++ [k]).count j = l.count j + if j = k then 1 else 0 := by
  rw [List.count_append, List.count_singleton]
  by_cases e : j = k
  · subst e
    simp
  · have h : (k == j) = false := by simpa using fun z : k = j => e z.symm
    simp [e, h]
theorem count_head (l : List Key) (k j : Key) : (k :: l).count j = l.count j + if j = k then 1 else 0 := by
  rw [List.count_cons]
  by_cases e : j = k
  · subst e
    simp
  · have h : (k == j) = false := by simpa using fun z : k = j => e z.symm
    simp [e, h]
theorem Many.add {kvs : List (Key × V)} {l : List Key} (h : Many kvs l) (k : Key) : Many (putK kvs k (.int ((l.count k : Nat) + 1))) (l ++ [k]) := by
  refine ⟨?_, fun j => ?_⟩
  · rw [put_keys]
    by_cases q : k ∈ kvs.map (·.1)
    · rw [if_pos q]
      exact h.nd
    · rw [if_neg q]
      refine List.nodup_append.mpr ⟨h.nd, (by simp), fun x hx y hy e => q ?_⟩
      rw [List.mem_singleton.mp hy] at e
      rw [← e]
      exact hx
  · rw [put_val, count_snoc]
    by_cases e : j = k
    · rw [if_pos e, if_pos e, if_pos (by rw [e]; simp), e] <;> simp
    · rw [if_neg e, if_neg e, h.val j]
      by_cases q : j ∈ l
      · rw [if_pos q, if_pos (List.mem_append_left _ q)] <;> simp
      · rw [if_neg q, if_neg (fun z => by
          rcases List.mem_append.mp z with z | z
          · exact q z
          · exact e (List.mem_singleton.mp z))]
theorem Many.less {kvs : List (Key × V)} {l : List Key} {k : Key} (h : Many kvs (k :: l)) (hk : k ∈ l) : Many (putK kvs k (.int (l.count k : Nat))) l := by
  have hm : k ∈ kvs.map (·.1) := (h.mem k).mpr List.mem_cons_self
  refine ⟨?_, fun j => ?_⟩
  · rw [put_keys, if_pos hm]
    exact h.nd
  · rw [put_val]
    by_cases e : j = k
    · rw [if_pos e, e, if_pos hk]
    · rw [if_neg e, h.val j, count_head, if_neg e]
      by_cases q : j ∈ l
      · rw [if_pos q, if_pos (List.mem_cons_of_mem _ q)] <;> simp
      · rw [if_neg q, if_neg (fun z => by
          rcases List.mem_cons.mp z with z | z
          · exact e z
          · exact q z)]
theorem Many.gone {kvs : List (Key × V)} {l : List Key} {k : Key} {v : V} (h : Many kvs (k :: l)) (hk : ¬ k ∈ l) : Many (dropK (putK kvs k v) k) l := by
  refine ⟨?_, fun j => ?_⟩
  · refine List.Nodup.sublist (drop_keys _ _) ?_
    rw [put_keys, if_pos ((h.mem k).mpr List.mem_cons_self)]
    exact h.nd
  · rw [drop_val]
    by_cases e : j = k
    · rw [if_pos e, e, if_neg hk]
    · rw [if_neg e, put_val, if_neg e, h.val j, count_head, if_neg e]
      by_cases q : j ∈ l
      · rw [if_pos q, if_pos (List.mem_cons_of_mem _ q)] <;> simp
      · rw [if_neg q, if_neg (fun z => by
          rcases List.mem_cons.mp z with z | z
          · exact e z
          · exact q z)]
/-! ### the sum -/
def knum : Key → Int
  | .inl i => i
  | .inr _ => 0
def ksum (l : List Key) : Int := (l.map knum).sum
theorem ksum_snoc (l : List Key) (k : Key) : ksum (l ++ [k]) = ksum l + knum k := by
  unfold ksum
  simp [List.sum_append]
theorem ksum_cons (l : List Key) (k : Key) : ksum (k :: l) = knum k + ksum l := by
  unfold ksum
  simp
theorem ksum_perm {l m : List Key} (p : l.Perm m) : ksum l = ksum m := by
  induction p with
  | nil => rfl
  | cons a p ih => rw [ksum_cons, ksum_cons, ih]
  | swap a b l =>
    rw [ksum_cons, ksum_cons, ksum_cons, ksum_cons]
    omega
  | trans p q ih1 ih2 => exact ih1.trans ih2
/-! ### least and greatest -/
theorem srt_least {l : List Key} {m : Key} (hm : m ∈ l) (h : ∀ x ∈ l, klt x m = false) : (srt l)[0]? = some m := by
  have h1 : m ∈ srt l := (srt_perm l).mem_iff.mpr hm
  cases e : srt l with
  | nil =>
    rw [e] at h1
    cases h1
  | cons a r =>
    have ha := srt_asc l
    rw [e] at ha h1
    obtain ⟨h2, _⟩ := List.pairwise_cons.mp ha
    have h3 : klt a m = false := h a ((srt_perm l).mem_iff.mp (by rw [e]; exact List.mem_cons_self))
    have h4 : klt m a = false := by
      rcases List.mem_cons.mp h1 with q | q
      · rw [q]
        exact klt_irrefl a
      · exact h2 m q
    rw [klt_anti h3 h4] <;> rfl
theorem srt_greatest {l : List Key} {m : Key} (hm : m ∈ l) (h : ∀ x ∈ l, klt m x = false) : (srt l)[l.length - 1]? = some m := by
  have h1 : m ∈ srt l := (srt_perm l).mem_iff.mpr hm
  have hl := srt_length l
  have h0 : 0 < (srt l).length := List.length_pos_of_mem h1
  have hlast : l.length - 1 < (srt l).length := by omega
  have e1 : (srt l)[l.length - 1]? = some (srt l)[l.length - 1] := List.getElem?_eq_getElem hlast
  obtain ⟨j, hj⟩ := List.mem_iff_getElem?.mp h1
  obtain ⟨hjl, ej⟩ := List.getElem?_eq_some_iff.mp hj
  have h3 : klt m (srt l)[l.length - 1] = false := h _ ((srt_perm l).mem_iff.mp (List.getElem_mem hlast))
  have h4 : klt (srt l)[l.length - 1] m = false := by
    by_cases q : j = l.length - 1
    · subst q
      rw [ej]
      exact klt_irrefl m
    · have z := List.pairwise_iff_getElem.mp (srt_asc l) j (l.length - 1) hjl hlast (by omega)
      rw [ej] at z
      exact z
  rw [e1, klt_anti h4 h3]
end K13
set_option Elab.async false
set_option linter.all false
set_option maxRecDepth 100000
set_option maxHeartbeats 4000000
namespace K13
open PySem PySem.Spec PyProof.Rows L2
/-- a def of the text without defaults -/
abbrev FnP (K : PySem.W.Frag) (x q : Str) (st : Stmt) (f : Addr) (fd : FuncData) : Prop := FunD K x q (defArgs st) (defBody st) (defScope st) [] [] f fd
theorem ifT {b : Bool} {A B : Prop} (h : b = true) (q : A) : if b = true then A else B := by
  rw [if_pos h]
  exact q
theorem ifF {b : Bool} {A B : Prop} (h : b = false) (q : B) : if b = true then A else B := by
  rw [h, if_neg Bool.false_ne_true]
  exact q
section
variable {P : Program} {w : World} {K : PySem.W.Frag} {mg : Str → Option Value} {base : Heap} {f : Addr} {fd : FuncData}
/-! ### _law_cell: some number -/
def spCell (K : PySem.W.Frag) : Sp := fun vs H Q _ => ∃ (a : Addr) (ns : List Int) (k : Nat), vs = [.ref a, .int k] ∧ SqL K H a (ns.map V.int) ∧ ∀ v : Int, Q (.int v) H
theorem scCell : FnScope ["_law_script", "_law_k"] ["_law_script", "_law_k"] (defScope sCell) := ⟨rfl, rfl, rfl, by decide +kernel, rfl, by decide +kernel, by decide +kernel⟩
theorem ok_cell (F : FnP K "_law_cell" "_law_cell" sCell f fd) (len : mg "len" = none) : FnOk P w K mg base CX0 1 f fd ["_law_script", "_law_k"] (spCell K) := by
  refine F.ok scCell (fun vs H Q E h => ?_) (fun cdv A outer s H vs Q E hr h => ⟨_, PSs.nox (pss_cons (ps_if (pt_cmpR op_lt (pv 1) (pe_callB call_len_seq (by rfl) len PySem.boot_len (pa_cons (pv 0) pa_nil)) (nomark _))
      (pss_one (ps_ret (pe_ix ix_list (pv 0) (pv 1) (fun _ _ => rfl)))) pss_nil) (pss_one (ps_ret pe_int))), ?_⟩)
  · obtain ⟨a, ns, k, rfl, _⟩ := h
    rfl
  · obtain ⟨a, ns, k, rfl, hS, q⟩ := h
    refine ⟨_, rfl, _, rfl, a, _, rfl, .inl hS, _, _, rfl, rfl, _, rfl, ?_⟩
    by_cases c : (k : Int) < ((ns.map V.int).length : Int)
    · refine ifT (decide_eq_true c) ?_
      have hk : k < (ns.map V.int).length := by omega
      have hk2 : k < ns.length := by rw [List.length_map] at hk; exact hk
      refine ⟨_, rfl, _, rfl, a, _, _, .int ns[k], rfl, rfl, hS, atI_nat ?_, q _⟩
      rw [List.getElem?_map, List.getElem?_eq_getElem hk2]
      rfl
    · exact ifF (decide_eq_false c) (q 0)
/-! ### _law_draw: a number below many; the place goes on -/
/-- the box at b: the digits' list at d, the place -/
def BoxAt (H : Hp) (b d : Addr) (at_ : Nat) : Prop := H b = some (.lst [.ref d, .int at_]) ∧ ∃ ns : List Int, H d = some (.lst (ns.map V.int))
def spDraw : Sp := fun vs H Q _ => ∃ (b d : Addr) (at_ : Nat) (m : Int), vs = [.ref b, .int m] ∧ 0 < m ∧ BoxAt H b d at_ ∧
  ∀ v : Int, 0 ≤ v → v < m → Q (.int v) (upd H b (.lst [.ref d, .int (at_ + 1 : Nat)]))
theorem BoxAt.ne {H : Hp} {b d : Addr} {n : Nat} (h : BoxAt H b d n) : d ≠ b := by
  obtain ⟨h1, ns, h2⟩ := h
  intro e
  rw [e, h1] at h2
  have z := HO.lst.inj (Option.some.inj h2)
  cases ns with
  | nil => cases z
  | cons a r =>
    have z2 := (List.cons.inj z).1
    cases z2
theorem BoxAt.next {H : Hp} {b d : Addr} {n : Nat} (h : BoxAt H b d n) : BoxAt (upd H b (.lst [.ref d, .int (n + 1 : Nat)])) b d (n + 1) := by
  have ne := h.ne
  obtain ⟨h1, ns, h2⟩ := h
  exact ⟨upd_same, ns, by rw [upd_ne ne]; exact h2⟩
theorem scDraw : FnScope ["_law_box", "_law_many", "_law_at"] ["_law_box", "_law_many"] (defScope sDraw) := ⟨rfl, rfl, rfl, by decide +kernel, rfl, by decide +kernel, by decide +kernel⟩
theorem ok_draw (F : FnP K "_law_draw" "_law_draw" sDraw f fd) (len : mg "len" = none) (int : mg "int" = none) : FnOk P w K mg base CX0 1 f fd ["_law_box", "_law_many"] spDraw := by
  refine F.ok scDraw (fun vs H Q E h => ?_) (fun cdv A outer s H vs Q E hr h => ⟨_, PSs.nox (pss_cons (ps_set (i := 2) scDraw.nd rfl (Or.inl rfl) (pe_ix ix_list (pv 0) pe_int (fun _ _ => rfl)))
      (pss_cons (ps_asg (pe_op op_add (pv 2) pe_int) (pg_sub (pv 0) pe_int set_list))
      (pss_cons (ps_if (pt_cmpR op_lt (pv 2) (pe_callB call_len_seq (by rfl) len PySem.boot_len (pa_cons (pe_ix ix_list (pv 0) pe_int (fun _ _ => rfl)) pa_nil)) (nomark _))
        (pss_one (ps_ret (pe_op op_mod (pe_callTy call_int1 (by rfl) int (by decide +kernel) (pa_cons (pe_ix ix_list (pe_ix ix_list (pv 0) pe_int (fun _ _ => rfl)) (pv 2) (fun _ _ => rfl)) pa_nil)) (pv 1)))) pss_nil)
      (pss_one (ps_ret (pe_op op_mod (pe_callTy call_int1 (by rfl) int (by decide +kernel) (pa_cons (pe_op op_add (pe_op op_mul (pv 2) pe_int) pe_int) pa_nil)) (pv 1))))))), ?_⟩)
  · obtain ⟨b, d, n, m, rfl, _⟩ := h
    rfl
  · obtain ⟨b, d, n, m, rfl, hm, hB, q⟩ := h
    have ne := hB.ne
    obtain ⟨h1, ns, h2⟩ := id hB
    refine ⟨_, rfl, b, _, _, .int n, rfl, rfl, SqL.of h1, atI_nat (j := 1) rfl, ?_⟩
    refine ⟨_, rfl, _, _, rfl, rfl, _, rfl, b, _, _, 1, rfl, rfl, h1, rfl, ?_⟩
    have hb2 : (upd H b (.lst ([V.ref d, V.int n].set 1 (.int ((n : Int) + 1))))) b = some (.lst [.ref d, .int (n + 1 : Nat)]) := upd_same
    have hd2 : (upd H b (.lst ([V.ref d, V.int n].set 1 (.int ((n : Int) + 1))))) d = some (.lst (ns.map V.int)) := by rw [upd_ne ne]; exact h2
    refine ⟨_, rfl, _, rfl, b, _, _, .ref d, rfl, rfl, SqL.of hb2, atI_nat (j := 0) rfl, d, _, rfl, .inl (SqL.of hd2), _, _, rfl, rfl, _, rfl, ?_⟩
    by_cases c : (n : Int) < ((ns.map V.int).length : Int)
    · refine ifT (decide_eq_true c) ?_
      have hk2 : n < ns.length := by rw [List.length_map] at c; omega
      refine ⟨_, rfl, b, _, _, .ref d, rfl, rfl, SqL.of hb2, atI_nat (j := 0) rfl, _, rfl, d, _, _, .int ns[n], rfl, rfl, SqL.of hd2, atI_nat ?_, .inl ⟨_, rfl, ?_⟩⟩
      · rw [List.getElem?_map, List.getElem?_eq_getElem hk2]
        rfl
      · exact ⟨_, rfl, _, _, rfl, rfl, hm, q _ (Int.emod_nonneg _ (by omega)) (Int.emod_lt_of_pos _ hm)⟩
    · refine ifF (decide_eq_false c) ?_
      refine ⟨_, rfl, _, _, rfl, rfl, .inr ⟨by decide, by decide⟩, _, _, rfl, rfl, .inl ⟨_, rfl, ?_⟩⟩
      exact ⟨_, rfl, _, _, rfl, rfl, hm, q _ (Int.emod_nonneg _ (by omega)) (Int.emod_lt_of_pos _ hm)⟩
end
end K13
set_option Elab.async false
set_option linter.all false
set_option maxRecDepth 100000
set_option maxHeartbeats 4000000
namespace K13
open PySem PySem.Spec PyProof.Rows L2
section
variable {P : Program} {w : World} {K : PySem.W.Frag} {mg : Str → Option Value} {base : Heap} {f : Addr} {fd : FuncData}
/-! ### _law_digits: a new list of numbers, at most 3,000 -/
def spDig (K : PySem.W.Frag) : Sp := fun vs H Q _ => ∃ (a : Addr) (ns : List Int), vs = [.ref a, .int 0, .int 50] ∧ SqL K H a (ns.map V.int) ∧
  ∀ (p : Addr) (ds : List Int), H p = none → ds.length ≤ 3000 → Q (.ref p) (upd H p (.lst (ds.map V.int)))
theorem map_snoc (ds : List Int) (x : Int) : ds.map V.int ++ [V.int x] = (ds ++ [x]).map V.int := by simp
theorem seq_upd {H : Hp} {a p : Addr} {xs : List V} {o : HO} (h : SqL K H a xs) (np : H p = none) : SqL K (upd H p o) a xs :=
  Same.seq (fun b u e => by rw [upd_ne (ne_of_none e np)]; exact e) h
theorem scDig : FnScope ["_law_script", "_law_first", "_law_last", "_law_digits_here", "_law_k", "_law_cell_here", "_law_place", "_law_seed"] ["_law_script", "_law_first", "_law_last"] (defScope sDig) := ⟨rfl, rfl, rfl, by decide +kernel, rfl, by decide +kernel, by decide +kernel⟩
theorem ok_dig {fC : Addr} {fdC : FuncData} (F : FnP K "_law_digits" "_law_digits" sDig f fd) (GC : FnOk P w K mg base CX0 1 fC fdC ["_law_script", "_law_k"] (spCell K)) (gC : mg "_law_cell" = some (.ref fC)) (kC : PySem.W.keepIn K (.ref fC) = true)
    (bC : Binds K fdC ["_law_script", "_law_k"] []) (int : mg "int" = none) (rng : mg "range" = none) : FnOk P w K mg base CX0 2 f fd ["_law_script", "_law_first", "_law_last"] (spDig K) := by
  refine F.ok scDig (fun vs H Q E h => ?_) (fun cdv A outer s H vs Q E hr h => ⟨_, PSs.nox (pss_cons (ps_set (i := 3) scDig.nd rfl (Or.inl rfl) (pe_lst pa_nil))
      (pss_cons (ps_for PassesOwn.never rfl (pi_range2 (by rfl) rng (pa_cons (pv 1) (pa_cons (pv 2) pa_nil))) (pg_name (i := 4) scDig.nd rfl (Or.inl rfl))
        (pss_cons (ps_set (i := 5) scDig.nd rfl (Or.inl rfl) (pe_call GC hr (by rfl) gC kC bC .nil pass0 (pa_cons (pv 0) (pa_cons (pv 4) pa_nil))))
        (pss_cons (ps_if (pt_cmpR op_lt (pv 5) pe_int (nomark _)) (pss_one (ps_set (i := 5) scDig.nd rfl (Or.inl rfl) (pe_op op_sub pe_int (pe_op op_mul pe_int (pv 5))))) pss_nil)
        (pss_one (ps_if (pt_cmpR op_ge (pv 5) (pe_op op_pow pe_int pe_int) (nomark _))
          (pss_one (ps_for PassesOwn.never rfl (pi_range1 (by rfl) rng (pa_cons pe_int pa_nil)) (pg_name (i := 6) scDig.nd rfl (Or.inl rfl))
            (pss_one (ps_if (pt_cmpR op_gt (pv 5) pe_int (nomark _))
              (pss_cons (ps_expr (pe_bm PySem.F.plainAttrs_list PySem.F.slot_list_append PySem.F.type_list_append mt_append (pv 3) (pa_cons (pe_op op_mod (pe_callTy call_int1 (by rfl) int (by decide +kernel) (pa_cons (pv 5) pa_nil)) pe_int) pa_nil)))
              (pss_one (ps_set (i := 5) scDig.nd rfl (Or.inl rfl) (pe_op op_fdiv (pv 5) pe_int)))) pss_nil))))
          (pss_cons (ps_set (i := 7) scDig.nd rfl (Or.inl rfl) (pe_op op_mod (pe_callTy call_int1 (by rfl) int (by decide +kernel) (pa_cons (pe_op op_add (pe_op op_add (pe_op op_mul (pv 5) pe_int) (pe_op op_mul (pv 4) pe_int)) pe_int) pa_nil)) pe_int))
          (pss_one (ps_for PassesOwn.never rfl (pi_range1 (by rfl) rng (pa_cons pe_int pa_nil)) (pg_name (i := 6) scDig.nd rfl (Or.inl rfl))
            (pss_cons (ps_set (i := 7) scDig.nd rfl (Or.inl rfl) (pe_op op_mod (pe_callTy call_int1 (by rfl) int (by decide +kernel) (pa_cons (pe_op op_add (pe_op op_add (pe_op op_mul (pv 7) pe_int) (pe_op op_mul pe_int (pv 6))) pe_int) pa_nil)) pe_int))
            (pss_one (ps_expr (pe_bm PySem.F.plainAttrs_list PySem.F.slot_list_append PySem.F.type_list_append mt_append (pv 3) (pa_cons (pe_op op_mod (pe_callTy call_int1 (by rfl) int (by decide +kernel) (pa_cons (pe_op op_fdiv (pv 7) pe_int) pa_nil)) pe_int) pa_nil)))))))))))))
      (pss_one (ps_ret (pv 3))))), ?_⟩)
  · obtain ⟨a, ns, rfl, _⟩ := h
    rfl
  · obtain ⟨a, ns, rfl, hS, q⟩ := h
    refine ⟨Nat.zero_le _, fun p hp => ?_⟩
    have hline : (3001 : Nat) < sizeLine := by rw [sizeLine_eq]; decide
    have app : ∀ (ds : List Int) (x : Int), upd (upd H p (.lst (ds.map V.int))) p (.lst (ds.map V.int ++ [.int x])) = upd H p (.lst ((ds ++ [x]).map V.int)) := fun ds x => by
      rw [upd_upd, map_snoc]
    refine ⟨_, rfl, _, rfl, 0, 50, rfl, by decide, for_range (lo := 0) (n := 50) (fun i σ H' => ∃ (ds : List Int) (v4 v5 v6 v7 : Option V), σ = [some (.ref a), some (.int 0), some (.int 50), some (.ref p), v4, v5, v6, v7] ∧ H' = upd H p (.lst (ds.map V.int)) ∧ ds.length ≤ 60 * i)
      ⟨[], none, none, none, none, rfl, rfl, Nat.zero_le _⟩ ?_ ?_⟩
    · rintro i σ H' hi ⟨ds, v4, v5, v6, v7, rfl, rfl, hl⟩
      refine ⟨_, rfl, _, rfl, a, ns, 0 + i, by simp, seq_upd hS hp, fun c => ?_⟩
      refine ⟨_, rfl, _, _, rfl, rfl, _, rfl, ?_⟩
      refine ite2 (fun _ => ⟨_, rfl, _, _, rfl, rfl, .inl ⟨by decide, by decide⟩, _, _, rfl, rfl, ?_⟩) (fun _ => ?_)
      all_goals
        refine ⟨_, rfl, _, _, rfl, rfl, ⟨by decide, by decide, by decide⟩, _, _, rfl, rfl, _, rfl, ?_⟩
        refine ite2 (fun _ => ?_) (fun _ => ?_)
        · refine ⟨60, rfl, by decide, by decide, for_range (lo := 0) (n := 60) (fun j σ H' => ∃ (es : List Int) (c : Int) (v6 v7 : Option V), σ = [some (.ref a), some (.int 0), some (.int 50), some (.ref p), some (.int (0 + (i : Int))), some (.int c), v6, v7] ∧ H' = upd H p (.lst (es.map V.int)) ∧ es.length ≤ 60 * i + j)
            ⟨ds, _, v6, v7, rfl, rfl, hl⟩ ?_ ?_⟩
          · rintro j σ H' hj ⟨es, c3, v6, v7, rfl, rfl, hl2⟩
            refine ⟨_, rfl, _, _, rfl, rfl, _, rfl, ?_⟩
            refine ite2 (fun _ => ?_) (fun _ => ?_)
            · refine ⟨_, rfl, .inl ⟨rfl, _, SqL.of upd_same⟩, _, rfl, .inl ⟨_, rfl, _, _, rfl, rfl, (by show (0 : Int) < 1000; decide), p, _, _, rfl, rfl, upd_same, ?_, ?_⟩⟩
              · rw [List.length_map]
                omega
              · refine ⟨_, rfl, _, _, rfl, rfl, ⟨by decide, by decide⟩, ?_⟩
                exact ⟨es ++ [c3 % 1000], c3 / 1000, _, v7, rfl, app _ _, by rw [List.length_append, List.length_singleton]; omega⟩
            · exact ⟨es, c3, _, v7, rfl, rfl, by omega⟩
          · rintro σ H' ⟨es, c3, v6, v7, rfl, rfl, hl2⟩
            exact ⟨es, _, _, v6, v7, rfl, rfl, by omega⟩
        · refine ⟨_, rfl, _, _, rfl, rfl, .inr ⟨by decide, by decide⟩, _, rfl, _, _, rfl, rfl, .inr ⟨by decide, by decide⟩, _, _, rfl, rfl, _, _, rfl, rfl, .inl ⟨_, rfl, _, _, rfl, rfl, (by show (0 : Int) < 2147483647; decide), ?_⟩⟩
          refine ⟨12, rfl, by decide, by decide, for_range (lo := 0) (n := 12) (fun j σ H' => ∃ (es : List Int) (z : Int) (v5 v6 : Option V), σ = [some (.ref a), some (.int 0), some (.int 50), some (.ref p), some (.int (0 + (i : Int))), v5, v6, some (.int z)] ∧ H' = upd H p (.lst (es.map V.int)) ∧ es.length ≤ 60 * i + j)
            ⟨ds, _, _, v6, rfl, rfl, hl⟩ ?_ ?_⟩
          · rintro j σ H' hj ⟨es, z, v5, v6, rfl, rfl, hl2⟩
            refine ⟨_, rfl, _, _, rfl, rfl, .inr ⟨by decide, by decide⟩, _, rfl, _, _, rfl, rfl, .inl ⟨by decide, by decide⟩, _, _, rfl, rfl, _, _, rfl, rfl, .inl ⟨_, rfl, _, _, rfl, rfl, (by show (0 : Int) < 2147483647; decide), ?_⟩⟩
            refine ⟨_, rfl, .inl ⟨rfl, _, SqL.of upd_same⟩, _, rfl, _, _, rfl, rfl, ⟨by decide, by decide⟩, .inl ⟨_, rfl, _, _, rfl, rfl, (by show (0 : Int) < 1000; decide), p, _, _, rfl, rfl, upd_same, ?_, ?_⟩⟩
            · rw [List.length_map]
              omega
            · exact ⟨es ++ [_], _, v5, _, rfl, app _ _, by rw [List.length_append, List.length_singleton]; omega⟩
          · rintro σ H' ⟨es, z, v5, v6, rfl, rfl, hl2⟩
            exact ⟨es, _, v5, v6, _, rfl, rfl, by omega⟩
    · rintro σ H' ⟨ds, v4, v5, v6, v7, rfl, rfl, hl⟩
      exact ⟨_, rfl, q p ds hp (by omega)⟩
end
end K13
set_option Elab.async false
set_option linter.all false
set_option maxRecDepth 100000
set_option maxHeartbeats 4000000
namespace K13
open PySem PySem.Spec PyProof.Rows L2
/-- a value of a window: nothing, or a key -/
abbrev Cell := Option Key
def cV : Cell → V
  | none => .non
  | some k => kV k
/-- what was tracked at other places stands -/
def Fix (S : List Addr) (H H' : Hp) : Prop := ∀ a o, a ∉ S → H a = some o → H' a = some o
theorem Fix.refl {S : List Addr} {H : Hp} : Fix S H H := fun _ _ _ h => h
theorem Fix.trans {S : List Addr} {H H1 H2 : Hp} (a : Fix S H H1) (b : Fix S H1 H2) : Fix S H H2 := fun c o n h => b c o n (a c o n h)
theorem Fix.upd {S : List Addr} {H : Hp} {a : Addr} {o : HO} (h : a ∈ S) : Fix S H (upd H a o) := fun c u n e => by
  rw [upd_ne (fun z => n (by rw [z]; exact h))]
  exact e
theorem Fix.new {S : List Addr} {H : Hp} {a : Addr} {o : HO} (h : H a = none) : Fix S H (L2.upd H a o) := fun c u n e => by
  rw [upd_ne (ne_of_none e h)]
  exact e
theorem Fix.of {S : List Addr} {H H' : Hp} (h : Same H H') : Fix S H H' := fun a o _ e => h a o e
theorem Fix.same {H H' : Hp} (h : Fix [] H H') : Same H H' := fun a o e => h a o (by simp) e
theorem Fix.mono {S S' : List Addr} {H H' : Hp} (h : Fix S H H') (k : ∀ a ∈ S, a ∈ S') : Fix S' H H' := fun a o n e => h a o (fun z => n (k a z)) e
section
variable {P : Program} {w : World} {K : PySem.W.Frag} {mg : Str → Option Value} {base : Heap} {f : Addr} {fd : FuncData}
/-! ### _law_same -/
/-- repr gives a text of it -/
def ReprOk : V → Prop
  | .non => True
  | .int i => i.natAbs.log2 < 1920
  | .str x => (reprText x).length ≤ sizeLine
  | _ => False
def reprS : V → Str
  | .int i => toString i
  | .str x => reprText x
  | _ => "None"
theorem call_repr {X : Cx} : CallR X (.builtin "repr") (fun xs H Q => ∃ x, xs = [x] ∧ ReprOk x ∧ Q (.str (reprS x)) H) := by
  intro pins s σ H xs us Q I r h
  obtain ⟨x, rfl, hx, q⟩ := h
  obtain ⟨u, rfl, r1⟩ := vals1 r
  cases x with
  | non =>
    cases r1
    exact PySem.P.repr_of_none ⟨.str _, H, I.tok _, ⟨_, rfl⟩, q⟩
  | int i =>
    obtain ⟨t, rfl⟩ := r1
    exact PySem.P.repr_of_int hx ⟨.str _, H, I.tok _, ⟨_, rfl⟩, q⟩
  | str x =>
    obtain ⟨t, rfl⟩ := r1
    exact PySem.P.repr_of_str ⟨.str _, H, I.tok _, ⟨_, rfl⟩, q⟩ hx
  | _ => exact (show False from hx).elim
def spSame : Sp := fun vs H Q _ => ∃ x : V, vs = [x, x] ∧ ReprOk x ∧ Q (.bl true) H
theorem scSame : FnScope ["_law_actual", "_law_due"] ["_law_actual", "_law_due"] (defScope sSame) := ⟨rfl, rfl, rfl, by decide +kernel, rfl, by decide +kernel, by decide +kernel⟩
theorem ok_same (F : FnP K "_law_same" "_law_same" sSame f fd) (rep : mg "repr" = none) : FnOk P w K mg base CX0 1 f fd ["_law_actual", "_law_due"] spSame := by
  refine F.ok scSame (fun vs H Q E h => ?_) (fun cdv A outer s H vs Q E hr h => ⟨_, PSs.nox (pss_one (ps_ret (pe_cmpR op_eq (pe_callB call_repr (by rfl) rep (by decide +kernel) (pa_cons (pv 0) pa_nil))
      (pe_callB call_repr (by rfl) rep (by decide +kernel) (pa_cons (pv 1) pa_nil)) (nomark _)))), ?_⟩)
  · obtain ⟨x, rfl, _⟩ := h
    rfl
  · obtain ⟨x, rfl, hx, q⟩ := h
    refine ⟨_, rfl, x, rfl, hx, _, rfl, x, rfl, hx, rfl, ?_⟩
    have e : decide (V.str (reprS x) = V.str (reprS x)) = true := decide_eq_true rfl
    show Q (.bl (decide (V.str (reprS x) = V.str (reprS x)))) H
    rw [e]
    exact q
/-! ### _law_drawn -/
def CellOk (t : Bool) : Cell → Prop
  | none => True
  | some (.inl i) => -2000000000000 ≤ i ∧ i ≤ 2000000000000
  | some (.inr x) => t = true ∧ (reprText x).length ≤ 100
def spDrawn : Sp := fun vs H Q _ => ∃ (b d : Addr) (at_ : Nat) (t : Bool), vs = [.ref b, .bl t] ∧ BoxAt H b d at_ ∧
  ∀ (c : Cell) (n : Nat) (H' : Hp), CellOk t c → Fix [b] H H' → BoxAt H' b d n → Q (cV c) H'
theorem BoxAt.fix {H H' : Hp} {b d : Addr} {n : Nat} (h : BoxAt H b d n) (e : Same H H') : BoxAt H' b d n := ⟨e _ _ h.1, h.2.imp fun _ q => e _ _ q⟩
theorem BoxAt.new {H : Hp} {b d p : Addr} {o : HO} {n : Nat} (h : BoxAt H b d n) (hp : H p = none) : BoxAt (upd H p o) b d n := h.fix fun a u e => by
  rw [upd_ne (ne_of_none e hp)]
  exact e
theorem scDrawn : FnScope ["_law_box", "_law_texts", "_law_kind"] ["_law_box", "_law_texts"] (defScope sDrawn) := ⟨rfl, rfl, rfl, by decide +kernel, rfl, by decide +kernel, by decide +kernel⟩
theorem at5 {v : Int} (h0 : 0 ≤ v) (h1 : v < 5) : ∃ x : Str, atI [V.str "", V.str "a", V.str "ab", V.str "b", V.str "zz"] v = some (V.str x) ∧ (reprText x).length ≤ 100 := by
  have h : v = 0 ∨ v = 1 ∨ v = 2 ∨ v = 3 ∨ v = 4 := by omega
  rcases h with rfl | rfl | rfl | rfl | rfl
  · exact ⟨"", rfl, by decide +kernel⟩
  · exact ⟨"a", rfl, by decide +kernel⟩
  · exact ⟨"ab", rfl, by decide +kernel⟩
  · exact ⟨"b", rfl, by decide +kernel⟩
  · exact ⟨"zz", rfl, by decide +kernel⟩
theorem at3 {α : Type} {a b c : α} {v : Int} (h0 : 0 ≤ v) (h1 : v < 3) : atI [a, b, c] v = some a ∨ atI [a, b, c] v = some b ∨ atI [a, b, c] v = some c := by
  have h : v = 0 ∨ v = 1 ∨ v = 2 := by omega
  rcases h with rfl | rfl | rfl
  · exact .inl rfl
  · exact .inr (.inl rfl)
  · exact .inr (.inr rfl)
theorem ok_drawn {fD : Addr} {fdD : FuncData} (F : FnP K "_law_drawn" "_law_drawn" sDrawn f fd) (GD : FnOk P w K mg base CX0 1 fD fdD ["_law_box", "_law_many"] spDraw) (gD : mg "_law_draw" = some (.ref fD)) (kD : PySem.W.keepIn K (.ref fD) = true)
    (bD : Binds K fdD ["_law_box", "_law_many"] []) : FnOk P w K mg base CX0 2 f fd ["_law_box", "_law_texts"] spDrawn := by
  refine F.ok scDrawn (fun vs H Q E h => ?_) (fun cdv A outer s H vs Q E hr h => ⟨_, PSs.nox (pss_cons (ps_set (i := 2) scDrawn.nd rfl (Or.inl rfl) (pe_call GD hr (by rfl) gD kD bD .nil pass0 (pa_cons (pv 0) (pa_cons pe_int pa_nil))))
      (pss_cons (ps_if (pt_cmpR op_eq (pv 2) pe_int (nomark _)) (pss_one (ps_ret pe_non)) pss_nil)
      (pss_cons (ps_if (PW.pt (pw_and (pt_cmpR op_lt (pv 2) pe_int (nomark _)) (pw_and1 (pt_val (pv 1)))))
        (pss_one (ps_ret (pe_ix ix_list (pe_lst (pa_cons pe_str (pa_cons pe_str (pa_cons pe_str (pa_cons pe_str (pa_cons pe_str pa_nil)))))) (pe_call GD hr (by rfl) gD kD bD .nil pass0 (pa_cons (pv 0) (pa_cons pe_int pa_nil))) (fun _ _ => rfl)))) pss_nil)
      (pss_one (ps_ret (pe_ix ix_list (pe_lst (pa_cons (pe_call GD hr (by rfl) gD kD bD .nil pass0 (pa_cons (pv 0) (pa_cons pe_int pa_nil)))
          (pa_cons (pe_op op_sub (pe_call GD hr (by rfl) gD kD bD .nil pass0 (pa_cons (pv 0) (pa_cons pe_int pa_nil))) pe_int)
          (pa_cons (pe_op op_add (pe_op op_pow pe_int pe_int) (pe_call GD hr (by rfl) gD kD bD .nil pass0 (pa_cons (pv 0) (pa_cons pe_int pa_nil)))) pa_nil))))
        (pe_call GD hr (by rfl) gD kD bD .nil pass0 (pa_cons (pv 0) (pa_cons pe_int pa_nil))) (fun _ _ => rfl))))))), ?_⟩)
  · obtain ⟨b, d, n, t, rfl, _⟩ := h
    rfl
  · obtain ⟨b, d, n, t, rfl, hB, q⟩ := h
    refine ⟨_, rfl, b, d, n, 8, rfl, by decide, hB, fun v0 h0 h1 => ?_⟩
    have B1 := hB.next
    have X1 : Fix [b] H (upd H b (.lst [.ref d, .int (n + 1 : Nat)])) := Fix.upd (by simp)
    refine ⟨_, rfl, rfl, _, rfl, ?_⟩
    refine ite2 (fun _ => q none _ _ trivial X1 B1) (fun _ => ?_)
    refine ⟨_, rfl, _, _, rfl, rfl, _, rfl, ?_⟩
    -- the second test
    have fin : ∀ {H1 : Hp}, BoxAt H1 b d (n + 1) → Fix [b] H H1 →
        ((fun σ H Q => tOp (rIxL K) (tLst (tCons (tCall spDraw [] E0 (tCons (tVar 0) (tCons (tC (.int 4)) tNil)))
          (tCons (tOp (rI0 fun i j => .int (i - j)) (tCall spDraw [] E0 (tCons (tVar 0) (tCons (tC (.int 2000)) tNil))) (tC (.int 1000)))
          (tCons (tOp (rI0 fun i j => .int (i + j)) (tOp (rI CPow fun i j => .int (i ^ j.toNat)) (tC (.int 10)) (tC (.int 12))) (tCall spDraw [] E0 (tCons (tVar 0) (tCons (tC (.int 3)) tNil)))) tNil))))
          (tCall spDraw [] E0 (tCons (tVar 0) (tCons (tC (.int 3)) tNil))) σ H Q) : TE) [some (.ref b), some (.bl t), some (.int v0)] H1 Q := fun {H1} B1 X1 => by
      refine ⟨_, rfl, b, d, _, 4, rfl, by decide, B1, fun v1 p1 p2 => ?_⟩
      have B2 := B1.next
      have X2 := X1.trans (Fix.upd (H := H1) (S := [b]) (o := .lst [.ref d, .int (n + 1 + 1 : Nat)]) (a := b) (by simp))
      refine ⟨_, rfl, b, d, _, 2000, rfl, by decide, B2, fun v2 p3 p4 => ?_⟩
      have B3 := B2.next
      have X3 := X2.trans (Fix.upd (S := [b]) (o := .lst [.ref d, .int (n + 1 + 1 + 1 : Nat)]) (a := b) (by simp))
      refine ⟨_, _, rfl, rfl, _, _, rfl, rfl, ⟨by decide, by decide, by decide⟩, _, rfl, b, d, _, 3, rfl, by decide, B3, fun v3 p5 p6 => ?_⟩
      have B4 := B3.next
      have X4 := X3.trans (Fix.upd (S := [b]) (o := .lst [.ref d, .int (n + 1 + 1 + 1 + 1 : Nat)]) (a := b) (by simp))
      refine ⟨_, _, rfl, rfl, (by show 3 ≤ sizeLine; rw [sizeLine_eq]; decide), fun p hp => ?_⟩
      have B5 := B4.new (o := .lst [.int v1, .int (v2 - 1000), .int (10 ^ (12 : Int).toNat + v3)]) hp
      have X5 := X4.trans (Fix.new (S := [b]) (o := .lst [.int v1, .int (v2 - 1000), .int (10 ^ (12 : Int).toNat + v3)]) hp)
      refine ⟨_, rfl, b, d, _, 3, rfl, by decide, B5, fun v4 p7 p8 => ?_⟩
      have B6 := B5.next
      have nb : p ≠ b := (ne_of_none B4.1 hp).symm
      have X6 := X5.trans (Fix.upd (S := [b]) (o := .lst [.ref d, .int (n + 1 + 1 + 1 + 1 + 1 : Nat)]) (a := b) (by simp))
      have e12 : (10 : Int) ^ (12 : Int).toNat = 1000000000000 := by decide
      have at_ : ∀ {z : V}, atI [V.int v1, V.int (v2 - 1000), V.int (10 ^ (12 : Int).toNat + v3)] v4 = some z → (∃ i : Int, z = V.int i ∧ -2000000000000 ≤ i ∧ i ≤ 2000000000000) → rIxL K (.ref p) (.int v4) _ Q := fun {z} e1 e2 => by
        obtain ⟨i, rfl, l1, l2⟩ := e2
        exact ⟨p, _, v4, _, rfl, rfl, SqL.of (by rw [upd_ne nb]; exact upd_same), e1, q (some (.inl i)) _ _ ⟨l1, l2⟩ X6 B6⟩
      rcases at3 (a := V.int v1) (b := V.int (v2 - 1000)) (c := V.int (10 ^ (12 : Int).toNat + v3)) p7 p8 with e | e | e
      · exact at_ e ⟨v1, rfl, by omega, by omega⟩
      · exact at_ e ⟨v2 - 1000, rfl, by omega, by omega⟩
      · exact at_ e ⟨10 ^ (12 : Int).toNat + v3, rfl, by rw [e12]; omega, by rw [e12]; omega⟩
    refine ite2 (fun _ => ?_) (fun _ => ifF rfl (fin B1 X1))
    refine ⟨_, rfl, t, rfl, ?_⟩
    cases t with
    | false => exact ifF rfl (fin B1 X1)
    | true =>
      refine ifT rfl ?_
      refine ⟨(by show 5 ≤ sizeLine; rw [sizeLine_eq]; decide), fun p hp => ?_⟩
      have B2 := B1.new (o := .lst [.str "", .str "a", .str "ab", .str "b", .str "zz"]) hp
      have X2 := X1.trans (Fix.new (S := [b]) (o := .lst [.str "", .str "a", .str "ab", .str "b", .str "zz"]) hp)
      refine ⟨_, rfl, b, d, _, 5, rfl, by decide, B2, fun v4 p7 p8 => ?_⟩
      have B3 := B2.next
      have X3 := X2.trans (Fix.upd (S := [b]) (o := .lst [.ref d, .int (n + 1 + 1 : Nat)]) (a := b) (by simp))
      have nb : p ≠ b := (ne_of_none B1.1 hp).symm
      obtain ⟨x, e1, e2⟩ := at5 p7 p8
      exact ⟨p, _, v4, _, rfl, rfl, SqL.of (by rw [upd_ne nb]; exact upd_same), e1, q (some (.inr x)) _ _ ⟨rfl, e2⟩ X3 B3⟩
end
end K13
set_option Elab.async false
set_option linter.all false
set_option maxRecDepth 100000
set_option maxHeartbeats 4000000
/-! key_of and _law_rank, walked over the bare heap: the call keeps all that stood and leaves a new tuple. -/
namespace K13
open PySem PySem.Spec PyProof.Rows L2
/-- the tuple of a key -/
def ktup : Key → List V
  | .inl i => [.int 1, .int i, .str ""]
  | .inr x => [.int 2, .int 0, .str x]
def kz : Key → PyData
  | .inl i => .tuple [.int 1, .int i, .str ""]
  | .inr x => .tuple [.int 2, .int 0, .str x]
def KeyTup (h : Heap) (p : Addr) (k : Key) : Prop := ∃ us : List Value, h.get? p = some { cls := .type "tuple", data := .seq us.toArray } ∧ Vals (ktup k) us
theorem KeyTup.reads {h : Heap} {p : Addr} {k : Key} (x : KeyTup h p k) : Reads h (.ref p) (kz k) [] := by
  obtain ⟨us, e, r⟩ := x
  cases k with
  | inl i =>
    cases r with
    | cons r1 r =>
      cases r with
      | cons r2 r =>
        cases r with
        | cons r3 r =>
          cases r
          obtain ⟨t1, rfl⟩ := r1
          obtain ⟨t2, rfl⟩ := r2
          obtain ⟨t3, rfl⟩ := r3
          exact .tuple e rfl rfl (.cons (as := []) (.int _ _) (.cons (as := []) (.int _ _) (.cons (as := []) (.str _ _) .nil)))
  | inr y =>
    cases r with
    | cons r1 r =>
      cases r with
      | cons r2 r =>
        cases r with
        | cons r3 r =>
          cases r
          obtain ⟨t1, rfl⟩ := r1
          obtain ⟨t2, rfl⟩ := r2
          obtain ⟨t3, rfl⟩ := r3
          exact .tuple e rfl rfl (.cons (as := []) (.int _ _) (.cons (as := []) (.int _ _) (.cons (as := []) (.str _ _) .nil)))
/-- what a key's call leaves -/
def KeyEnd (R : Result → Shared → Prop) (s : Shared) (k : Key) : Prop := ∀ (h' : Heap) (tk : Nat) (p : Addr), (∀ b o, s.heap.get? b = some o → h'.get? b = some o) → s.heap.objs.size ≤ p → KeyTup h' p k → R (.ok (.ret (.ref p))) { s with heap := h', toks := tk }
theorem mod_up {K : PySem.W.Frag} {mg : Str → Option Value} {h h' : Heap} (M : L2.Mod K mg h) (k : ∀ b o, h.get? b = some o → h'.get? b = some o) : L2.Mod K mg h' :=
  ⟨M.kin.keeps k, M.glob.keeps k, M.blt.imp fun _ q => ⟨q.1.keeps k, q.2⟩, M.nolimit.keeps k⟩
section
variable {P : Program} {w : World} {K : PySem.W.Frag} {mg : Str → Option Value} {f : Addr} {fd : FuncData} {s : Shared} {A : Around} {E : Value → Shared → Prop} {env : Env} {L : Addr} {m : Str → Option Value} {u : Value} {k : Key}
/-- a built-in's name, in a frame of the module -/
theorem raw_blt {x : Str} {pos : Pos} {v : Value} {Q : Value → Shared → Prop} (M : L2.Mod K mg s.heap) (hm : mg x = none) (hv : bootBuiltins x = some v) (h : Q v s) (hk : env.scope.kind = .function) (hg : env.kindOf x = some .globalImplicit) (eg : env.globals = mainGlobals) (eb : env.builtins = builtinsNs)
    (hn : x ≠ "__name__" := by decide) (hd : (x == ("__debug__" : Str)) = false := by decide) : wpAny (model P w) A (eval (.Name x pos) env) Q E s := by
  obtain ⟨mb, h1, h2⟩ := M.blt
  exact Calls.Name_function_global hk hg (Calls.loadGlobal_builtin (by rw [eg]; exact M.glob) hm (by rw [eb]; exact h1) ((h2 x hn).trans hv) h) hd
theorem raw_glob {x : Str} {pos : Pos} {v : Value} {Q : Value → Shared → Prop} (M : L2.Mod K mg s.heap) (hm : mg x = some v) (h : Q v s) (hk : env.scope.kind = .function) (hg : env.kindOf x = some .globalImplicit) (eg : env.globals = mainGlobals)
    (hd : (x == ("__debug__" : Str)) = false := by decide) : wpAny (model P w) A (eval (.Name x pos) env) Q E s :=
  Calls.Name_function_global hk hg (Calls.loadGlobal_global (by rw [eg]; exact M.glob) hm h) hd
theorem raw_loc {x : Str} {pos : Pos} {v : Value} {Q : Value → Shared → Prop} (hn : s.heap.Ns env.locals m) (hv : m x = some v) (h : Q v s) (hk : env.scope.kind = .function) (hl : env.kindOf x = some .local)
    (hd : (x == ("__debug__" : Str)) = false := by decide) : wpAny (model P w) A (eval (.Name x pos) env) Q E s := wpAny_Name (wpAny_loadName_local hk hl hn hv h) hd
def isText : Key → Bool
  | .inl _ => false
  | .inr _ => true
/-- isinstance(u, str) -/
theorem raw_isi {Q : Value → Shared → Prop} (M : L2.Mod K mg s.heap) (ru : RelV (kV k) u) (h : ∀ tk, Q (.bool (isText k)) { s with toks := tk }) : wpAny (model P w) A (call (.builtin "isinstance") [u, .type "str"]) Q E s := by
  cases k with
  | inl i =>
    obtain ⟨t, rfl⟩ := ru
    exact PySem.W.kia_one (K := K) PySem.W.kitx_int M.kin True.intro (kit_ty (show kitB "int" "str" = some false by decide +kernel)) (fun z => nomatch z) h
  | inr x =>
    obtain ⟨t, rfl⟩ := ru
    exact PySem.W.kia_one (K := K) PySem.W.kitx_str M.kin True.intro (kit_ty (show kitB "str" "str" = some true by decide +kernel)) (fun z => nomatch z) h
theorem key_some (ru : RelV (kV k) u) : (u == Value.none) = false := by
  rw [ru.none_iff]
  cases k <;> rfl
/-- (a, b, c), a, b numbers or names: spliced -/
theorem raw_tup {e1 e2 e3 : Expr} {j : Nat} {pos : Pos} {Q : Value → Shared → Prop} (h : wpAny (model P w) A (eval e1 env) (fun v1 s1 => wpAny (model P w) A (eval e2 env) (fun v2 s2 => wpAny (model P w) A (eval e3 env) (fun v3 s3 =>
      Q (.ref s3.heap.objs.size) { s3 with heap := s3.heap.push { cls := .type "tuple", data := .seq [v1, v2, v3].toArray } }) E s2) E s1) E s)
    (h1 : starEach [e1, e2, e3] env = [(false, eval e1 env), (false, eval e2 env), (false, eval e3 env)] := by rfl) : wpAny (model P w) A (eval (.Tuple [e1, e2, e3] j pos) env) Q E s := by
  refine wpAny_Tuple_spliced ?_
  rw [h1]
  refine Calls.spliced_cons (wpAny_mono h (fun v1 s1 q1 => Calls.spliced_cons (wpAny_mono q1 (fun v2 s2 q2 => Calls.spliced_cons (wpAny_mono q2 (fun v3 s3 q3 => Calls.spliced_nil ⟨?_, q3⟩) fun _ _ z => z)) fun _ _ z => z)) fun _ _ z => z)
  show 3 ≤ sizeLine
  rw [sizeLine_eq]
  decide
/-- the call of _law_rank -/
theorem rank_raw {R : Result → Shared → Prop} {args : Args} (F : FnP K "_law_rank" "_law_rank" sRank f fd) (M : L2.Mod K mg s.heap) (ni : mg "isinstance" = none) (ns : mg "str" = none) (hb : BindsTo s fd args [("_law_value", u)]) (ru : RelV (kV k) u) (hd : A.depth < recursionLimit) (h : KeyEnd R s k) :
    codeAny (model P w) A (.call (.ref f) args) R s := by
  obtain ⟨oc, od, dV, kV', doc, pm, an, cdv, ct, osl, rfl, lk, hcd, _, _⟩ := F.ex
  refine Att.call_fn (binds := [("_law_value", u)]) M.kin M.nolimit lk hcd hd hb (by first | rfl | kernel_rfl) (fun s1 IC => ?_) rfl rfl rfl
  obtain ⟨h1, tk1, rfl⟩ := IC.toInCall.same
  have up : ∀ b o, s.heap.get? b = some o → h1.get? b = some o := IC.toInCall.keep
  have M1 := mod_up M up
  have hn := IC.toInCall.ns
  have hv : bindL (envOfC "_law_rank" (defScope sRank) s.heap.objs.size f cdv).kindOf [("_law_value", u)] (fun _ => none) "_law_value" = some u := by first | rfl | (with_unfolding_all rfl)
  have sz : s.heap.objs.size ≤ h1.objs.size := Nat.le_of_lt hn.lt
  have ld : ∀ {tk : Nat} {pos : Pos} {Q : Value → Shared → Prop} {E : Value → Shared → Prop}, Q u { s with heap := h1, toks := tk } → wpAny (model P w) (A.deeper (envOfC "_law_rank" (defScope sRank) s.heap.objs.size f cdv)) (eval (.Name "_law_value" pos) (envOfC "_law_rank" (defScope sRank) s.heap.objs.size f cdv)) Q E { s with heap := h1, toks := tk } :=
    fun {tk pos Q E} q => raw_loc (s := { s with heap := h1, toks := tk }) hn hv q rfl rfl
  refine wpAny_execs_cons (wpAny_If (wpAny_isTrue_Compare1 (ld (Constant_none (is_none_gen (wpAny_truthy_bool ?_))))))
  rw [key_some ru]
  refine ifF rfl (wpAny_execs_nil ?_)
  show wpAny _ _ (execs _ _) _ _ _
  refine wpAny_execs_cons (wpAny_If (isTrue_plain (wpAny_Call_Name_kw (raw_blt (s := { s with heap := h1, toks := tk1 }) M1 ni boot_isinstance (callWith_builtin1 (Calls.spliced_cons (ld (Calls.spliced_cons (raw_blt (s := { s with heap := h1, toks := tk1 }) M1 ns (by decide +kernel) (Calls.spliced_nil (raw_isi (s := { s with heap := h1, toks := tk1 }) M1 ru fun tk2 => wpAny_truthy_bool ?_)) rfl rfl rfl rfl)))) rfl rfl) rfl rfl rfl rfl))))
  cases k with
  | inl i =>
    refine ifF rfl (wpAny_execs_nil ?_)
    show wpAny _ _ (execs _ _) _ _ _
    refine wpAny_execs_cons (wpAny_Return_some (raw_tup (wpAny_Constant_int (ld (Calls.Constant_str ?_)))))
    exact h _ _ _ (fun b o e => Heap.get?_push_of_some _ (up b o e)) sz ⟨_, Heap.get?_push_size _ rfl, .cons ⟨_, rfl⟩ (.cons ru (.cons ⟨_, rfl⟩ .nil))⟩
  | inr x =>
    refine ifT rfl ?_
    refine wpAny_execs_cons (wpAny_Return_some (raw_tup (wpAny_Constant_int (wpAny_Constant_int (ld ?_)))))
    exact h _ _ _ (fun b o e => Heap.get?_push_of_some _ (up b o e)) sz ⟨_, Heap.get?_push_size _ rfl, .cons ⟨_, rfl⟩ (.cons ⟨_, rfl⟩ (.cons ru .nil))⟩
/-- the call of key_of -/
theorem key_raw {R : Result → Shared → Prop} {args : Args} (F : FnP K "key_of" "key_of" sKey f fd) (M : L2.Mod K mg s.heap) (ni : mg "isinstance" = none) (ns : mg "str" = none) (hb : BindsTo s fd args [("value", u)]) (ru : RelV (kV k) u) (hd : A.depth < recursionLimit) (h : KeyEnd R s k) :
    codeAny (model P w) A (.call (.ref f) args) R s := by
  obtain ⟨oc, od, dV, kV', doc, pm, an, cdv, ct, osl, rfl, lk, hcd, _, _⟩ := F.ex
  refine Att.call_fn (binds := [("value", u)]) M.kin M.nolimit lk hcd hd hb (by first | rfl | kernel_rfl) (fun s1 IC => ?_) rfl rfl rfl
  obtain ⟨h1, tk1, rfl⟩ := IC.toInCall.same
  have up : ∀ b o, s.heap.get? b = some o → h1.get? b = some o := IC.toInCall.keep
  have M1 := mod_up M up
  have hn := IC.toInCall.ns
  have hv : bindL (envOfC "key_of" (defScope sKey) s.heap.objs.size f cdv).kindOf [("value", u)] (fun _ => none) "value" = some u := by first | rfl | (with_unfolding_all rfl)
  have sz : s.heap.objs.size ≤ h1.objs.size := Nat.le_of_lt hn.lt
  have ld : ∀ {tk : Nat} {pos : Pos} {Q : Value → Shared → Prop} {E : Value → Shared → Prop}, Q u { s with heap := h1, toks := tk } → wpAny (model P w) (A.deeper (envOfC "key_of" (defScope sKey) s.heap.objs.size f cdv)) (eval (.Name "value" pos) (envOfC "key_of" (defScope sKey) s.heap.objs.size f cdv)) Q E { s with heap := h1, toks := tk } :=
    fun {tk pos Q E} q => raw_loc (s := { s with heap := h1, toks := tk }) hn hv q rfl rfl
  refine wpAny_execs_cons (wpAny_If (wpAny_isTrue_Compare1 (ld (Constant_none (is_none_gen (wpAny_truthy_bool ?_))))))
  rw [key_some ru]
  refine ifF rfl (wpAny_execs_nil ?_)
  show wpAny _ _ (execs _ _) _ _ _
  refine wpAny_execs_cons (wpAny_Return_some (wpAny_IfExp (isTrue_plain (wpAny_Call_Name_kw (raw_blt (s := { s with heap := h1, toks := tk1 }) M1 ni boot_isinstance (callWith_builtin1 (Calls.spliced_cons (ld (Calls.spliced_cons (raw_blt (s := { s with heap := h1, toks := tk1 }) M1 ns (by decide +kernel) (Calls.spliced_nil (raw_isi (s := { s with heap := h1, toks := tk1 }) M1 ru fun tk2 => wpAny_truthy_bool ?_)) rfl rfl rfl rfl)))) rfl rfl) rfl rfl rfl rfl)))))
  cases k with
  | inl i =>
    refine ifF rfl (raw_tup (wpAny_Constant_int (ld (Calls.Constant_str ?_))))
    exact h _ _ _ (fun b o e => Heap.get?_push_of_some _ (up b o e)) sz ⟨_, Heap.get?_push_size _ rfl, .cons ⟨_, rfl⟩ (.cons ru (.cons ⟨_, rfl⟩ .nil))⟩
  | inr x =>
    refine ifT rfl (raw_tup (wpAny_Constant_int (wpAny_Constant_int (ld ?_))))
    exact h _ _ _ (fun b o e => Heap.get?_push_of_some _ (up b o e)) sz ⟨_, Heap.get?_push_size _ rfl, .cons ⟨_, rfl⟩ (.cons ⟨_, rfl⟩ (.cons ru .nil))⟩
end
end K13
set_option Elab.async false
set_option linter.all false
set_option maxRecDepth 100000
set_option maxHeartbeats 4000000
namespace K13
open PySem PySem.Spec PyProof.Rows L2
/-! ### the order of keys is the order of their tuples -/
theorem kz_alike (a b : Key) : PySem.W.alike (kz a) (kz b) = true := by
  cases a <;> cases b <;> simp [kz, PySem.W.alike, PySem.W.alikeAll]
theorem kz_depth (a : Key) : (kz a).depth = 1 := by
  cases a <;> simp [kz, PyData.depth, PyData.depthAll]
theorem kz_none (a : Key) : kz a ≠ .none := by
  cases a <;> exact fun z => by cases z
theorem kz_lt (a b : Key) : PySem.W.dataLt (kz a) (kz b) = klt a b := by
  have three : ∀ (r i r' i' : Int) (x x' : Str), PySem.W.dataLt (.tuple [.int r, .int i, .str x]) (.tuple [.int r', .int i', .str x']) =
      if r = r' then (if i = i' then decide (x.cps.toList < x'.cps.toList) else decide (i < i')) else decide (r < r') := fun r i r' i' x x' => by
    show PyProof.Rows.lexLt itemOrd (PySem.W.keyToksAll _) (PySem.W.keyToksAll _) = _
    rw [PySem.W.dataLt_cons (by simp [PySem.W.alike]), PySem.W.dataLt_cons (by simp [PySem.W.alike]), PySem.W.dataLt_cons (by simp [PySem.W.alike]), PySem.W.dataLt_int, PySem.W.dataLt_int, PySem.W.dataLt_str]
    simp only [PyData.eqv, beq_iff_eq]
    by_cases h1 : r = r'
    · by_cases h2 : i = i'
      · by_cases h3 : x = x'
        · subst h3
          have e : PyProof.Rows.lexLt itemOrd (PySem.W.keyToksAll []) (PySem.W.keyToksAll []) = false := PyProof.Rows.lex_irrefl _
          simp [h1, h2, e]
        · simp [h1, h2, h3]
      · simp [h1, h2]
    · simp [h1]
  cases a with
  | inl i => cases b with
    | inl j =>
      show PySem.W.dataLt (.tuple [.int 1, .int i, .str ""]) (.tuple [.int 1, .int j, .str ""]) = decide (i < j)
      rw [three, if_pos rfl]
      by_cases h : i = j
      · subst h
        rw [if_pos rfl, decide_eq_false (Int.lt_irrefl i), decide_eq_false (List.lt_irrefl _)]
      · rw [if_neg h]
    | inr y =>
      show PySem.W.dataLt (.tuple [.int 1, .int i, .str ""]) (.tuple [.int 2, .int 0, .str y]) = true
      rw [three, if_neg (by decide)]
      decide
  | inr x => cases b with
    | inl j =>
      show PySem.W.dataLt (.tuple [.int 2, .int 0, .str x]) (.tuple [.int 1, .int j, .str ""]) = false
      rw [three, if_neg (by decide)]
      decide
    | inr y =>
      show PySem.W.dataLt (.tuple [.int 2, .int 0, .str x]) (.tuple [.int 2, .int 0, .str y]) = decide (x.cps.toList < y.cps.toList)
      rw [three, if_pos rfl, if_pos rfl]
/-- a tracked tuple of a key reads as its data -/
theorem ktup_reads {X : Cx} {pins : List (Addr × Obj)} {σ : L2.St} {H : Hp} {s : Shared} {a : Addr} {k : Key} (I : Inv X pins σ H s) (h : H a = some (.tup (ktup k))) : Reads s.heap (.ref a) (kz k) [] := by
  obtain ⟨_, its, r, o, ho, hc, n, hd⟩ := I.hok a _ h
  cases k with
  | inl i =>
    cases r with
    | cons r1 r =>
      cases r with
      | cons r2 r =>
        cases r with
        | cons r3 r =>
          cases r
          obtain ⟨t1, rfl⟩ := r1
          obtain ⟨t2, rfl⟩ := r2
          obtain ⟨t3, rfl⟩ := r3
          exact .tuple ho hc hd (.cons (as := []) (.int _ _) (.cons (as := []) (.int _ _) (.cons (as := []) (.str _ _) .nil)))
  | inr y =>
    cases r with
    | cons r1 r =>
      cases r with
      | cons r2 r =>
        cases r with
        | cons r3 r =>
          cases r
          obtain ⟨t1, rfl⟩ := r1
          obtain ⟨t2, rfl⟩ := r2
          obtain ⟨t3, rfl⟩ := r3
          exact .tuple ho hc hd (.cons (as := []) (.int _ _) (.cons (as := []) (.int _ _) (.cons (as := []) (.str _ _) .nil)))
/-- a < b of two keys' tuples -/
def rLtK : R2 := fun x y H Q => ∃ (a b : Addr) (k j : Key), x = .ref a ∧ y = .ref b ∧ H a = some (.tup (ktup k)) ∧ H b = some (.tup (ktup j)) ∧ Q (.bl (klt k j)) H
theorem op_ltK {X : Cx} (hu : X.A.units + 1 < cLine) : OpR X (compareOp .Lt) rLtK := by
  intro pins s σ H x y v u Q I rx ry h
  obtain ⟨a, b, k, j, rfl, rfl, ha, hb, q⟩ := h
  cases rx
  cases ry
  have r := PySem.W.rcLt_alike (kz k) (kz j) X.A s (.ref a) (.ref b) [] [] (ktup_reads I ha) (ktup_reads I hb) (kz_alike k j) (kz_none k) (by rw [kz_depth, kz_depth]; exact hu)
  show wpAny _ _ (richCompare .Lt (.ref a) (.ref b)) _ _ _
  refine r X.prog X.w X.xe _ ?_
  rw [kz_lt]
  exact ⟨.bl (klt k j), H, I, rfl, q⟩
section
variable {P : Program} {w : World} {K : PySem.W.Frag} {mg : Str → Option Value} {base : Heap} {f : Addr} {fd : FuncData}
/-! ### key_of: a new tuple -/
def spKey : Sp := fun vs H Q _ => ∃ k : Key, vs = [kV k] ∧ ∀ p, H p = none → Q (.ref p) (upd H p (.tup (ktup k)))
theorem ktup_len (k : Key) : (ktup k).length = 3 := by
  cases k <;> rfl
theorem ok_key (F : FnP K "key_of" "key_of" sKey f fd) (ni : mg "isinstance" = none) (ns : mg "str" = none) : FnOk P w K mg base CX0 1 f fd ["value"] spKey := by
  refine ⟨fun vs H Q E h => ?_, fun A outer s H args us vs Q E hr e0 hb r hsp => ?_⟩
  · obtain ⟨k, rfl, _⟩ := h
    rfl
  · obtain ⟨k, rfl, q⟩ := hsp
    obtain ⟨u, rfl, ru⟩ := vals1 r
    have M : L2.Mod K mg s.heap := mod_up e0.mod fun b o e => (e0.bs b o e).1
    refine key_raw F M ni ns hb ru hr.depth fun h' tk p up hp kt => ?_
    have hn : H p = none := e0.hok.fresh hp
    obtain ⟨its, eo, rv⟩ := kt
    have new : ObjOk P w (upd H p (.tup (ktup k))) h' p (.tup (ktup k)) := ⟨by rw [ktup_len, sizeLine_eq]; decide, its, rv, _, eo, rfl, _, rfl⟩
    exact ⟨.ref p, upd H p (.tup (ktup k)), rfl, e0.bare, Un.laid up hp hn, e0.hok.laid up hp new, rfl, q p hn⟩
/-! ### place_in: the first place for a value -/
def spPla (K : PySem.W.Frag) : Sp := fun vs H Q _ => ∃ (a : Addr) (m : List Key) (k : Key), vs = [.ref a, kV k] ∧ SqL K H a (m.map kV) ∧ Asc m ∧ m.length ≤ 1000 ∧ ∀ (p : Nat) (H' : Hp), Place m k p → Same H H' → Q (.int p) H'
theorem same_new {H : Hp} {p : Addr} {o : HO} (h : H p = none) : Same H (upd H p o) := fun b u e => by
  rw [upd_ne (ne_of_none e h)]
  exact e
theorem scPla : FnScope ["given", "value", "low", "high", "middle"] ["given", "value"] (defScope sPla) := ⟨rfl, rfl, rfl, by decide +kernel, rfl, by decide +kernel, by decide +kernel⟩
theorem ok_pla {fK : Addr} {fdK : FuncData} (F : FnP K "place_in" "place_in" sPla f fd) (GK : FnOk P w K mg base CX0 1 fK fdK ["value"] spKey) (gK : mg "key_of" = some (.ref fK)) (kK : PySem.W.keepIn K (.ref fK) = true) (bK : Binds K fdK ["value"] [])
    (len : mg "len" = none) : FnOk P w K mg base CX0 2 f fd ["given", "value"] (spPla K) := by
  refine F.ok scPla (fun vs H Q E h => ?_) (fun cdv A outer s H vs Q E hr h => ⟨_, PSs.nox (pss_cons (ps_set (i := 2) scPla.nd rfl (Or.inl rfl) pe_int)
      (pss_cons (ps_set (i := 3) scPla.nd rfl (Or.inl rfl) (pe_callB call_len_seq (by rfl) len PySem.boot_len (pa_cons (pv 0) pa_nil)))
      (pss_cons (ps_while PassesOwn.never (pt_cmpR op_lt (pv 2) (pv 3) (nomark _))
        (pss_cons (ps_set (i := 4) scPla.nd rfl (Or.inl rfl) (pe_op op_fdiv (pe_op op_add (pv 2) (pv 3)) pe_int))
        (pss_one (ps_if (pt_cmpR (op_ltK (hu_of hr)) (pe_call GK hr (by rfl) gK kK bK .nil pass0 (pa_cons (pe_ix ix_list (pv 0) (pv 4) (fun _ _ => rfl)) pa_nil)) (pe_call GK hr (by rfl) gK kK bK .nil pass0 (pa_cons (pv 1) pa_nil)) (nomark _))
          (pss_one (ps_set (i := 2) scPla.nd rfl (Or.inl rfl) (pe_op op_add (pv 4) pe_int)))
          (pss_one (ps_set (i := 3) scPla.nd rfl (Or.inl rfl) (pv 4)))))))
      (pss_one (ps_ret (pv 2)))))), ?_⟩)
  · obtain ⟨a, m, k, rfl, _⟩ := h
    rfl
  · obtain ⟨a, m, k, rfl, hS, hA, hl, q⟩ := h
    refine ⟨_, rfl, a, _, rfl, .inl hS, ?_⟩
    refine while_by (fun σ H' => ∃ (lo hi : Nat) (v : Option V), σ = [some (.ref a), some (kV k), some (.int lo), some (.int hi), v] ∧ lo ≤ hi ∧ hi ≤ m.length ∧ Same H H' ∧ (∀ (i : Nat) x, i < lo → m[i]? = some x → klt x k = true) ∧ (∀ (i : Nat) x, hi ≤ i → m[i]? = some x → klt x k = false))
      (fun σ _ => match σ with | [_, _, some (.int lo), some (.int hi), _] => (hi - lo).toNat | _ => 0) ⟨0, m.length, none, by rw [List.length_map]; rfl, Nat.zero_le _, Nat.le_refl _, Same.refl H, fun i x h => absurd h (Nat.not_lt_zero _), fun i x h e => by
        have z := (List.getElem?_eq_some_iff.mp e).1
        omega⟩ ?_ ?_
    · rintro σ H' ⟨lo, hi, v, rfl, h1, h2, hs, hlo, hhi⟩
      refine ⟨_, rfl, _, rfl, _, _, rfl, rfl, _, rfl, ?_⟩
      by_cases c : (lo : Int) < (hi : Int)
      · refine ifT (decide_eq_true c) ?_
        refine ⟨_, rfl, _, rfl, _, _, rfl, rfl, _, _, rfl, rfl, ⟨by decide, by decide⟩, ?_⟩
        obtain ⟨mid, em, hm1, hm2⟩ : ∃ mid : Nat, ((lo : Int) + (hi : Int)) / 2 = (mid : Int) ∧ lo ≤ mid ∧ mid < hi := ⟨(lo + hi) / 2, by omega, by omega, by omega⟩
        have hmm : mid < m.length := by omega
        have e1 : m[mid]? = some m[mid] := List.getElem?_eq_getElem hmm
        show gName 4 (V.int (((lo : Int) + (hi : Int)) / 2)) _ _ _
        rw [em]
        have hS' := hs.seq hS
        refine ⟨_, rfl, _, rfl, a, _, _, kV m[mid], rfl, rfl, hS', atI_nat (by rw [List.getElem?_map, e1]; rfl), m[mid], rfl, fun p hp => ?_⟩
        refine ⟨_, rfl, k, rfl, fun p2 hp2 => ?_⟩
        have np : p ≠ p2 := fun e => by
          rw [← e, upd_same] at hp2
          cases hp2
        have hs2 : Same H (upd (upd H' p (.tup (ktup m[mid]))) p2 (.tup (ktup k))) := hs.trans ((same_new hp).trans (same_new hp2))
        refine ⟨p, p2, m[mid], k, rfl, rfl, by rw [upd_ne np]; exact upd_same, upd_same, _, rfl, ?_⟩
        cases hk : klt m[mid] k with
        | true =>
          refine ifT rfl ?_
          refine ⟨_, rfl, _, _, rfl, rfl, ⟨⟨mid + 1, hi, _, rfl, by omega, h2, hs2, fun i x hi' ex => ?_, hhi⟩, ?_⟩⟩
          · have hil : i < m.length := (List.getElem?_eq_some_iff.mp ex).1
            have exi : m[i] = x := (List.getElem?_eq_some_iff.mp ex).2
            by_cases e : i = mid
            · subst e
              rw [← exi]
              exact hk
            · have z := List.pairwise_iff_getElem.mp hA i mid hil hmm (by omega)
              rw [exi] at z
              cases r : klt x k with
              | true => rfl
              | false =>
                have y := kle_trans (a := k) (b := x) (c := m[mid]) r z
                rw [hk] at y
                exact absurd y Bool.true_eq_false.mp
          · show ((hi : Int) - ((mid : Int) + 1)).toNat < ((hi : Int) - (lo : Int)).toNat
            omega
        | false =>
          refine ifF rfl ?_
          refine ⟨_, rfl, ⟨⟨lo, mid, _, rfl, hm1, by omega, hs2, hlo, fun i x hi' ex => ?_⟩, ?_⟩⟩
          · have hil : i < m.length := (List.getElem?_eq_some_iff.mp ex).1
            have exi : m[i] = x := (List.getElem?_eq_some_iff.mp ex).2
            by_cases e : i = mid
            · subst e
              rw [← exi]
              exact hk
            · have z := List.pairwise_iff_getElem.mp hA mid i hmm hil (by omega)
              rw [exi] at z
              exact kle_trans (a := k) (b := m[mid]) (c := x) hk z
          · show ((mid : Int) - (lo : Int)).toNat < ((hi : Int) - (lo : Int)).toNat
            omega
      · refine ifF (decide_eq_false c) ?_
        have e : lo = hi := by omega
        subst e
        exact ⟨_, rfl, q lo H' ⟨h2, hlo, hhi⟩ hs⟩
    · intro σ H Q Q' mono h
      obtain ⟨x, e1, y, e2, i, j, e3, e4, kk, e5, h⟩ := h
      exact ⟨x, e1, y, e2, i, j, e3, e4, kk, e5, mono _ _ h⟩
end
end K13
set_option Elab.async false
set_option linter.all false
set_option maxRecDepth 100000
set_option maxHeartbeats 4000000
/-! BadArgument: made (its own __init__ walked over the bare heap, super().__init__ with it), raised, its field read. -/
namespace K13
open PySem PySem.Spec PyProof.Rows L2 PySem.HandSPX
/-- what __init__ leaves of a fresh exception at x: its args laid anew, a dict with the reason -/
structure BadEnd (h h' : Heap) (x C dx : Addr) (v : Value) : Prop where
  keep : ∀ b o, b ≠ x → h.get? b = some o → h'.get? b = some o
  obj : ∃ t1 : Addr, h'.get? x = some { cls := .ref C, dict := some dx, data := .fields #[.ref t1, .none, .none, .none, .bool false, .none] }
  dbig : h.objs.size ≤ dx
  dne : dx ≠ x
  ns : h'.Ns1 dx (fun y => if y = "reason" then some v else none)
abbrev theFile : Str := PySem.Challenge.pw_windowtable_k13_windows_told.main.file
abbrev IniB (K : PySem.W.Frag) (f C : Addr) : Prop := IniT K f C "__init__" "BadArgument.__init__" theFile (defArgs sBadI) (defBody sBadI) (defScope sBadI)
section
variable {w : World} {A : Around} {R : Result → Shared → Prop} {s : Shared} {K : PySem.W.Frag} {mg : Str → Option Value} {C fI : Addr}
abbrev thePr : Program := PySem.Challenge.pw_windowtable_k13_windows_told
theorem bad_init (T : BadT K C fI) (I : IniB K fI C) (M : L2.Mod K mg s.heap) (nsu : mg "super" = none) {x t0 : Addr} {y : Str} {ty : Tok} (hy : y.length ≤ 1000) (hx : s.heap.get? x = some (excO C t0)) (hnx : K.lookup x = none) (hroom : A.depth < recursionLimit)
    (hq : ∀ h' tk dx, BadEnd s.heap h' x C dx (.str y ty) → R (.ok (.ret .none)) { s with heap := h', toks := tk }) :
    codeAny (model thePr w) A (.call (.ref fI) ⟨[.ref x, .str y ty], []⟩) R s := by
  obtain ⟨oc, od, kV', doc, pm, an, ct, osl, cc, cda, c1, c2, c3, d1, d2, d3, vs, fl, tf, lk, hcd, hcell, hcode, hvs, hfile⟩ := I.ex
  obtain ⟨nm, q, N, bs, bm, sn, sub, ab, col, dd, k0, k1, k2, k3, k5, hC, hbm⟩ := T.cls
  have hcl : PySem.W.clsIn K C = some { name := nm, bases := bs, mro := .ref C :: bm, ns := N, qualname := q, hasDict := true, slotNames := sn, subclasses := sub, abstract := ab, collection := col, hasDel := false } := by unfold PySem.W.clsIn; rw [hC] <;> rfl
  refine ks_codeAny_call_defAt (fd := PySem.W.fnX "__init__" "BadArgument.__init__" (defArgs sBadI) (defBody sBadI) (defScope sBadI) [("__class__", cc)] .none kV' doc pm an (.ref cda) ct) (binds := [("self", .ref x), ("reason", .str y ty)])
    hroom (M.kin _ _ lk) rfl M.nolimit (PySem.W.codeRec_of M.kin hcd) rfl (BindsTo.of_eq (by first | rfl | with_unfolding_all rfl)) (show ∀ x ∈ (defScope sBadI).names, x.2 ≠ NameKind.cell by decide +kernel) (fun z hz => by
      rcases List.mem_cons.mp hz with e | hz
      · rw [e]
        first | rfl | kernel_rfl
      · rw [List.mem_singleton.mp hz]
        first | rfl | kernel_rfl) (fun h₁ hns up => ?_)
  have M1 := mod_up M up
  have hx1 := up _ _ hx
  have hxL : x < s.heap.objs.size := Heap.lt_size hx
  obtain ⟨hp, g, dr, tk0, os⟩ := s
  have hDC := M1.kin _ _ hC
  obtain ⟨mb, hb1, hb2⟩ := M1.blt
  have su : PySem.W.alongIn K "__init__" (((Value.ref C :: bm).dropWhile (· != .ref C)).drop 1) = some (some (.builtin "ValueError.__init__")) := by
    have z := T.su
    unfold PySem.W.ks_superIn at z
    rw [hcl] at z
    exact z
  have nxC : x ≠ C := fun e => by
    rw [e, hDC] at hx1
    cases hx1
  refine ks_wpAt_execs_cons (ks_wpAt_Expr_any (ks_wpAt_MethodCall (pl := _) ?_))
  refine ks_wpAt_super_base (f := fI) (cc := cda) rfl rfl (by decide) rfl (M1.kin _ _ lk) rfl rfl rfl (M1.kin _ _ hcode) rfl hvs hfile (by decide +kernel) ?_
  refine PySem.W.ks_loadName_global rfl rfl (Calls.loadGlobal_builtin M1.glob nsu hb1 ((hb2 _ (by decide)).trans (show bootBuiltins "super" = some (.type "super") by decide +kernel)) ⟨rfl, ?_⟩)
  refine wpAny_loadName_free (c := cc) (v := .ref C) rfl rfl rfl ⟨_, M1.kin _ _ hcell, rfl⟩ ?_
  refine wpAny_loadName_local (v := .ref x) rfl rfl hns rfl ?_
  refine ks_wpAny_isType_cls hDC rfl ⟨rfl, ?_⟩
  refine ks_wpAny_call_super hDC rfl hx1 rfl (fun c z => by cases z) (PySem.W.looks_mroIn M1.kin T.mr) (fun h2 hso up2 => ?_)
  have M2 := mod_up M1 up2
  have hx2 := up2 _ _ hx1
  have hI2 : PySem.W.InstAt h2 x (excO C t0) C none := ⟨hx2, rfl, rfl, trivial⟩
  have lI : PySem.W.Looks (model thePr w) h2 (isInstance (.ref x) (.type "ValueError")) true := hI2.type.andThen (PySem.W.looks_subIn M2.kin T.veC)
  have lM : PySem.W.Looks (model thePr w) h2 (mroOf (.ref C)) (.ref C :: bm) := fun A Q E s k q => wpAny_bind ((PySem.W.looks_clsIn M2.kin hcl) A _ E s k (wpAny_pure q))
  refine PySem.W.kxs_getMethod PySem.W.kxs_ValueError hso (PySem.W.looks_opaque M2.kin T.op) lM rfl M2.kin su lI nxC (by decide) ?_
  have hu : (h2.push (PySem.W.kxs_mw "ValueError.__init__" x)).get? h2.objs.size = some (PySem.W.kxs_mw "ValueError.__init__" x) := Heap.get?_push_size _ rfl
  have up3 : ∀ b o, h2.get? b = some o → (h2.push (PySem.W.kxs_mw "ValueError.__init__" x)).get? b = some o := fun b o e => Heap.get?_push_of_some _ e
  have M3 := mod_up M2 up3
  have hns3 : (h2.push (PySem.W.kxs_mw "ValueError.__init__" x)).Ns hp.objs.size (fun z => [(("self" : Str), Value.ref x), (("reason" : Str), Value.str y ty)].reverse.lookup z) := (hns.keeps up2).keeps up3
  have hx3 := up3 _ _ hx2
  refine PySem.W.kxs_callWith (i := "ValueError.__init__") (x := x) rfl (Calls.evalArgs_plain (Calls.spliced_cons ?_))
  have hl1 : (Str.empty ++ ("bad argument: " : Str)).length ≤ sizeLine := by rw [sizeLine_eq]; decide +kernel
  have hl2 : ((Str.empty ++ ("bad argument: " : Str)) ++ y).length ≤ sizeLine := by
    have e : ((Str.empty ++ ("bad argument: " : Str)) ++ y).length = (Str.empty ++ ("bad argument: " : Str)).length + y.length := by
      show (_ : Array Nat).size = _
      exact Array.size_append
    have e2 : (Str.empty ++ ("bad argument: " : Str)).length = 14 := by decide +kernel
    rw [e, e2, sizeLine_eq]
    omega
  refine wpAny_JoinedStr (pos := ⟨7, 25, 7, 50⟩) (Calls.Constant_str ⟨_, _, rfl, hl1, wpAny_FormattedValue_plain (raw_loc (m := fun z => [(("self" : Str), Value.ref x), (("reason" : Str), Value.str y ty)].reverse.lookup z) hns3 (by rfl) (wpAny_formatField_str ⟨y, _, rfl, hl2, ?_⟩ ⟨y, _, rfl, hl2, ?_⟩ (by rw [sizeLine_eq]; omega)) rfl rfl)⟩)
  all_goals
    refine ⟨hl2, Calls.spliced_nil ⟨hu, ?_⟩⟩
    refine wpAny_call (codeAny_of_tree ?_)
    show wpAny _ (Around.in1 _) (callAny (.ref h2.objs.size) ⟨[_], []⟩) _ _ _
    simp only [callAny]
    refine wpAny_bind (wpAny_load hu ?_)
    simp only [PySem.W.kxs_mw, show (Value.type "method-wrapper" == Value.type "method" || Value.type "method-wrapper" == Value.type "builtin_function_or_method" || Value.type "method-wrapper" == Value.type "method-wrapper") = true by decide, if_true]
    refine PySem.W.KFB.if_so (by decide) ?_
    refine wpAny_bind (PySem.W.check_bound_init PySem.F.excBase_ValueError.toExcCallFacts (M3.kin _ _ hC) hx3 rfl ?_)
    refine wpAny_bind (wpAny_pure (wpAny_pure ?_))
    refine ⟨Code.quiet_builtin _ (by decide +kernel), codeAny_builtin PySem.F.excBase_ValueError.initEntry ?_⟩
    refine PySem.W.exc_init_tree hx3 (show 1 ≤ sizeLine by rw [sizeLine_eq]; decide) (fun h4 k4 hx4 _ => ?_)
    have xL : hp.objs.size ≠ x := Nat.ne_of_gt hxL
    have X4 : K.In h4 := fun a o e => k4 a o (fun z => by rw [z, hnx] at e; cases e) (M3.kin a o e)
    have hns4 : h4.Ns hp.objs.size (fun z => [(("self" : Str), Value.ref x), (("reason" : Str), Value.str y ty)].reverse.lookup z) := by
      obtain ⟨oL, es, ep, hL, r⟩ := hns3
      exact ⟨oL, es, ep, k4 _ _ xL hL, r⟩
    show PySem.wpAt _ _ _ (execs _ _) _ _ _
    refine wpAt_of_wpAny (wpAny_execs_cons (plainObj_wpAny_Assign_Attribute (wpAny_Name (wpAny_loadName_local (v := .str y ty) rfl rfl hns4 rfl (wpAny_Name (wpAny_loadName_local (v := .ref x) rfl rfl hns4 rfl ?_) (by decide))) (by decide))))
    refine PySem.W.set_plain X4 (ox := excO C (h2.push (PySem.W.kxs_mw "ValueError.__init__" x)).objs.size) (od := none) ⟨hx4, rfl, rfl, trivial⟩ T.sa ?_
    refine exc_osa X4 hx4 hcl (show refsVE (.ref C :: bm) = true from hbm) rfl T.noN (fun h5 tk5 dx k5 dn dne hx5 hn5 => ?_)
    show wpAny _ _ (execs _ _) _ _ _
    refine wpAny_execs_nil (hq h5 tk5 dx ⟨fun b o hb e => k5 b o hb (k4 b o hb (up3 b o (up2 b o (up b o e)))), ⟨_, hx5⟩, ?_, dne, hn5⟩)
    have z2 : hp.objs.size < h2.objs.size := (hns.keeps up2).lt
    have z4 : hp.objs.size < h4.objs.size := hns4.lt
    exact Nat.le_of_lt (Nat.lt_of_lt_of_le z4 dn)
/-- a made BadArgument at e, its own dict at d -/
structure BadMade (h h' : Heap) (e C d : Addr) (v : Value) : Prop where
  keep : ∀ b o, h.get? b = some o → h'.get? b = some o
  new : h.objs.size ≤ e
  obj : ∃ oe vs, h'.get? e = some oe ∧ oe.cls = .ref C ∧ oe.dict = some d ∧ oe.data = .fields vs ∧ vs[1]? = some .none
  dbig : h.objs.size ≤ d
  dne : d ≠ e
  ns : h'.Ns1 d (fun y => if y = "reason" then some v else none)
theorem bad_made (T : BadT K C fI) (I : IniB K fI C) (M : L2.Mod K mg s.heap) (nsu : mg "super" = none) {y : Str} {ty : Tok} (hy : y.length ≤ 1000) (hroom : A.depth + 1 < recursionLimit)
    (hq : ∀ h' tk e d, BadMade s.heap h' e C d (.str y ty) → R (.ok (.ret (.ref e))) { s with heap := h', toks := tk }) :
    codeAny (model thePr w) A (.call (.ref C) ⟨[.str y ty], []⟩) R s := by
  obtain ⟨nm, q, N, bs, bm, sn, sub, ab, col, dd, k0, k1, k2, k3, k5, hC, hbm⟩ := T.cls
  obtain ⟨hp, g, dr, tk, os⟩ := s
  have k : ∀ b o, hp.get? b = some o → ((hp.push (PySem.W.kdv_tup [Value.str y ty])).push (excO C hp.objs.size)).get? b = some o := fun b o e => Heap.get?_push_of_some _ (Heap.get?_push_of_some _ e)
  have hget : ((hp.push (PySem.W.kdv_tup [Value.str y ty])).push (excO C hp.objs.size)).get? (hp.objs.size + 1) = some (excO C hp.objs.size) := by heap_get
  have hnx : K.lookup (hp.objs.size + 1) = none := by
    cases e : K.lookup (hp.objs.size + 1) with
    | none => rfl
    | some o => exact absurd (Nat.lt_of_succ_lt (Heap.lt_size (M.kin _ _ e))) (Nat.lt_irrefl _)
  have one : [Value.str y ty].length ≤ sizeLine := by
    show 1 ≤ sizeLine
    rw [sizeLine_eq]
    decide
  refine call_own PySem.F.excBase_ValueError (fun X => refsVE_contains X bm hbm) (M.kin _ _ hC) (PySem.W.looks_findIn M.kin T.iC) (fun self => PySem.W.bind_fn M.kin self T.tC) one ?_
  refine bad_init (s := ⟨(hp.push (PySem.W.kdv_tup [Value.str y ty])).push (excO C hp.objs.size), g, dr, tk, os⟩) T I (mod_up M k) nsu hy hget hnx (show A.depth + 1 < recursionLimit from hroom) fun h' tk' dx z => ?_
  obtain ⟨t1, hx⟩ := z.obj
  have zd := z.dbig
  have e2 : hp.objs.size + 1 + 1 ≤ dx := by
    first
      | (simpa only [Heap.size_push] using zd)
      | (rw [Heap.size_push, Heap.size_push] at zd; exact zd)
  exact ⟨rfl, hq h' tk' (hp.objs.size + 1) dx ⟨fun b o e => z.keep b o (Nat.ne_of_lt (Nat.lt_succ_of_lt (Heap.lt_size e))) (k b o e), Nat.le_succ _, ⟨_, _, hx, rfl, rfl, rfl, rfl⟩, Nat.le_trans (Nat.le_trans (Nat.le_succ _) (Nat.le_succ _)) e2, z.dne, z.ns⟩⟩
end
theorem relO_reason {v : V} {v' : Value} (r : RelV v v') (f : Str) : RelO (List.lookup f [(("reason" : Str), v)]) (if f = "reason" then some v' else none) := by
  rw [lookup_put]
  by_cases h : f = "reason"
  · rw [if_pos h, if_pos h]
    exact r
  · rw [if_neg h, if_neg h]
    trivial
section
variable {X : Cx} {C fI : Addr}
/-- BadArgument('..'): the error's class, its own dict d, new, with the reason -/
def tBad (C : Addr) (y : Str) : L2.St → Hp → XK → Prop := fun _ H Q => ∀ d, H d = none → Q (.ref C) (some d) (upd H d (.xd [(("reason" : Str), .str y)]))
theorem pmk_bad {y : Str} {j : Nat} {p p2 pos : Pos} {k : Nat} (hpr : X.prog = thePr) (T : BadT X.K C fI) (I0 : IniB X.K fI C) (nsu : X.mg "super" = none) (gC : X.mg "BadArgument" = some (.ref C)) (hr : Room k X.A) (hy : y.length ≤ 1000) (hg : Gl X "BadArgument" := by rfl)
    (he : starEach [.Constant (.str y) j p2] X.env = (false, eval (.Constant (.str y) j p2) X.env) :: starEach [] X.env := by rfl) (hpl : (backTo pos (starEach [] X.env)).any (·.1) = false := by rfl) :
    PMk X (.Call (.Name "BadArgument" p) [.Constant (.str y) j p2] [] pos) (tBad C y) := by
  intro pins s σ H Q I h
  refine wpAny_Call_Name_kw (ld_glob I hg gC ?_)
  refine PySem.W.callWith_K (h₀ := X.base) I.ok.mod.kin T.kC ?_ he hpl
  rw [he]
  refine Calls.spliced_cons (Calls.Constant_str (pos := p2) (k := j) (Calls.spliced_nil ⟨(I.tok (s.toks + 1)).kIn, ?_⟩))
  show wpAny _ _ (call (.ref C) [Value.str y s.toks]) _ _ _
  have M1 : L2.Mod X.K X.mg s.heap := mod_up I.ok.mod I.bk
  obtain ⟨hp, g, dr, tk, os⟩ := s
  rw [hpr]
  refine wpAny_call (bad_made (s := ⟨hp, g, dr, tk + 1, os⟩) T I0 M1 nsu hy (show X.A.depth + 1 < recursionLimit by have := hr.dp; omega) fun h' tk' e d Z => ?_)
  show MkP X pins σ Q (.ref e) ⟨h', g, dr, tk', os⟩
  obtain ⟨oe, fv, hoe, hc, hd, hdat, h1⟩ := Z.obj
  obtain ⟨G', g1, g2⟩ := restrict h' fun b => decide (b ≠ e)
  have gk : ∀ b, b ≠ e → G'.get? b = h'.get? b := fun b hb => g1 b (decide_eq_true hb)
  have ge : G'.get? e = none := g2 e (by simp)
  have old : ∀ b o, hp.get? b = some o → G'.get? b = some o := fun b o q => (gk b (Nat.ne_of_lt (Nat.lt_of_lt_of_le (Heap.lt_size q) Z.new))).trans (Z.keep b o q)
  have ob : ObjOk X.prog X.w (upd H d (.xd [(("reason" : Str), .str y)])) G' d (.xd [(("reason" : Str), .str y)]) :=
    ⟨_, Z.ns.at (fun o q => (gk d Z.dne).trans q), fun f => relO_reason (v := .str y) (v' := .str y tk) ⟨_, rfl⟩ f⟩
  have J : Inv X pins σ (upd H d (.xd [(("reason" : Str), .str y)])) ⟨G', g, dr, tk', os⟩ := I.laid (t' := tk') old Z.dbig ob
  refine ⟨e, oe, fv, ⟨G', g, dr, tk', os⟩, _, .ref C, some d, rfl, J, fun b o q => ?_, ge, hoe, ⟨hc, hd⟩, hdat, h1, ?_, rfl, I.bare, raises_own T.exC T.tyC, h d (I.hok.fresh Z.dbig)⟩
  · by_cases hb : b = e
    · have q' : G'.get? b = some o := q
      rw [hb, ge] at q'
      cases q'
    · exact (gk b hb).symm.trans q
  · rw [upd_ne (Ne.symm Z.dne)]
    exact I.hok.fresh Z.new
/-- raise BadArgument('..') -/
theorem ps_bad {y : Str} {j : Nat} {W : WX} {p p2 pos pos2 : Pos} {k : Nat} (hc : X.calm = true) (hpr : X.prog = thePr) (T : BadT X.K C fI) (I0 : IniB X.K fI C) (nsu : X.mg "super" = none) (gC : X.mg "BadArgument" = some (.ref C)) (hr : Room k X.A) (hy : y.length ≤ 1000) (tk : Takes X W) (hg : Gl X "BadArgument" := by rfl)
    (he : starEach [.Constant (.str y) j p2] X.env = (false, eval (.Constant (.str y) j p2) X.env) :: starEach [] X.env := by rfl) (hpl : (backTo pos (starEach [] X.env)).any (·.1) = false := by rfl) :
    PS X (.Raise (some (.Call (.Name "BadArgument" p) [.Constant (.str y) j p2] [] pos)) none pos2) (fun _ σ H => tBad C y σ H fun cls d H' => W cls d σ H') := ps_raise hc tk (pmk_bad hpr T I0 nsu gC hr hy hg he hpl)
/-- e.reason, e the exception that the suite holds at a (class cls, dict d) -/
def tReason (C : Addr) (a : Addr) (cls : Value) (d : Option Addr) (te : TE) : TE := fun σ H Q => te σ H fun x H1 => x = .ref a ∧ cls = .ref C ∧ ∃ (dd : Addr) (v : V), d = some dd ∧ H1 dd = some (.xd [(("reason" : Str), v)]) ∧ Q v H1
theorem pe_reason {a : Addr} {oe : Obj} {cls : Value} {d : Option Addr} {pn : List (Addr × Obj)} {e : Expr} {te : TE} {pos : Pos} (T : BadT X.K C fI) (hz : Zc cls d oe) (hf : ∃ vs, oe.data = .fields vs) (he : PE (X.suite a ((a, oe) :: pn)) e te)
    (hb : attributeBase e "reason" X.env (eval e X.env) = eval e X.env := by rfl) : PE (X.suite a ((a, oe) :: pn)) (.Attribute e "reason" pos) (tReason C a cls d te) := by
  refine ⟨fun pins s σ H Q I h => ?_⟩
  refine attr_of hb (thn (he.run pins s σ H _ I h) fun u s1 hh => ?_)
  obtain ⟨x, H1, I1, rx, ex, ec, dd, v, ed, ea, q⟩ := hh
  subst ex ec ed
  obtain rfl : u = Value.ref a := rx
  obtain ⟨ha, _⟩ := I1.pin (a, oe) (List.mem_append_left _ List.mem_cons_self)
  obtain ⟨vs, hd⟩ := hf
  have hx : ObjOk X.prog X.w H1 s1.heap dd (.xd [(("reason" : Str), v)]) := I1.hok dd _ ea
  obtain ⟨mA, hns, hr⟩ := hx
  obtain ⟨od, ho, hl⟩ := lookIn_ns hns
  have l : List.lookup ("reason" : Str) [(("reason" : Str), v)] = some v := by simp [List.lookup]
  obtain ⟨u, hu, ru⟩ := RelO.some_of (v := v) (o := mA "reason") (by rw [← l]; exact hr "reason")
  have J : PySem.W.InstAt s1.heap a oe C (some od) := ⟨ha, hz.1, by unfold PySem.W.notCls; rw [hd] <;> rfl, by rw [hz.2]; exact ho⟩
  exact exc_get I1.kIn J T.ga T.gg T.exC (PySem.W.findObj_own T.hdC T.noN rfl (by rw [hl, hu])) (handed_of ru) ⟨v, H1, I1.tok _, ru, q⟩
end
end K13
set_option Elab.async false
set_option linter.all false
set_option maxRecDepth 100000
set_option maxHeartbeats 4000000
/-! Window: what an instance holds; made, size, end_value, given_value, told. -/
namespace K13
open PySem PySem.Spec PyProof.Rows L2
inductive Fn9 where
  | size | count | different | sum | least | greatest | median | first | last
  deriving DecidableEq
def Fn9.name : Fn9 → Str
  | .size => "size"
  | .count => "count"
  | .different => "different"
  | .sum => "sum"
  | .least => "least"
  | .greatest => "greatest"
  | .median => "median"
  | .first => "first"
  | .last => "last"
/-- one of the two that take no texts -/
def Fn9.num : Fn9 → Bool
  | .sum => true
  | .median => true
  | _ => false
theorem name_eq (f g : Fn9) : decide (V.str f.name = V.str g.name) = decide (f = g) := by
  cases f <;> cases g <;> decide +kernel
theorem nameIf {f : Fn9} {y : Str} (g : Fn9) {A B : Prop} (e : g.name = y) (h1 : f = g → A) (h2 : f ≠ g → B) : if decide (V.str f.name = V.str y) = true then A else B := by
  subst e
  rw [name_eq]
  by_cases h : f = g
  · exact ifT (decide_eq_true h) (h1 h)
  · exact ifF (decide_eq_false h) (h2 h)
/-- the values that are not None -/
def known (g : List Cell) : List Key := g.filterMap id
theorem known_snoc (g : List Cell) (c : Cell) : known (g ++ [c]) = known g ++ (match c with | some k => [k] | none => []) := by
  unfold known
  rw [List.filterMap_append]
  cases c <;> rfl
theorem known_cons (g : List Cell) (c : Cell) : known (c :: g) = (match c with | some k => [k] | none => []) ++ known g := by
  unfold known
  cases c <;> rfl
theorem known_length (g : List Cell) : (known g).length ≤ g.length := List.length_filterMap_le _ _
def valueOf : Fn9 → List Cell → Cell
  | .size, g => some (.inl g.length)
  | .count, g => some (.inl (known g).length)
  | .different, g => some (.inl (uniq (known g)).length)
  | .sum, g => if known g = [] then none else some (.inl (ksum (known g)))
  | .least, g => (srt (known g))[0]?
  | .greatest, g => (srt (known g))[(known g).length - 1]?
  | .median, g => (srt (known g))[((known g).length - 1) / 2]?
  | .first, g => (g[0]?).getD none
  | .last, g => (g[g.length - 1]?).getD none
/-- the fields of a window -/
def wf (fn : Str) (r : Addr) (b : Int) (a m : Addr) (t : Int) : List (Str × V) :=
  [("function", .str fn), ("row", .ref r), ("begin", .int b), ("ascending", .ref a), ("many", .ref m), ("total", .int t)]
section
variable {fn : Str} {r : Addr} {b : Int} {a m : Addr} {t : Int}
theorem pl {fs : List (Str × V)} {f : Str} {v : V} {k : Nat} (h : fs.length ≤ k) : (putF f v fs).length ≤ k + 1 := by
  have := length_putF f v fs
  omega
theorem lk1 : List.lookup ("function" : Str) (wf fn r b a m t) = some (.str fn) := by first | rfl | kernel_rfl
theorem lk2 : List.lookup ("row" : Str) (wf fn r b a m t) = some (.ref r) := by first | rfl | kernel_rfl
theorem lk3 : List.lookup ("begin" : Str) (wf fn r b a m t) = some (.int b) := by first | rfl | kernel_rfl
theorem lk4 : List.lookup ("ascending" : Str) (wf fn r b a m t) = some (.ref a) := by first | rfl | kernel_rfl
theorem lk5 : List.lookup ("many" : Str) (wf fn r b a m t) = some (.ref m) := by first | rfl | kernel_rfl
theorem lk6 : List.lookup ("total" : Str) (wf fn r b a m t) = some (.int t) := by first | rfl | kernel_rfl
theorem pt3 {b' : Int} : putF "begin" (.int b') (wf fn r b a m t) = wf fn r b' a m t := by first | rfl | kernel_rfl
theorem pt6 {t' : Int} : putF "total" (.int t') (wf fn r b a m t) = wf fn r b a m t' := by first | rfl | kernel_rfl
theorem lma : List.lookup ("add" : Str) (wf fn r b a m t) = none := by first | rfl | kernel_rfl
theorem lmd : List.lookup ("drop" : Str) (wf fn r b a m t) = none := by first | rfl | kernel_rfl
theorem lms : List.lookup ("size" : Str) (wf fn r b a m t) = none := by first | rfl | kernel_rfl
theorem lme : List.lookup ("end_value" : Str) (wf fn r b a m t) = none := by first | rfl | kernel_rfl
theorem lmg : List.lookup ("given_value" : Str) (wf fn r b a m t) = none := by first | rfl | kernel_rfl
theorem lmt : List.lookup ("told" : Str) (wf fn r b a m t) = none := by first | rfl | kernel_rfl
end
structure WinT (K : PySem.W.Frag) (C : Addr) : Prop where
  cl : Cls K C
  n1 : NoAttr K C "function"
  n2 : NoAttr K C "row"
  n3 : NoAttr K C "begin"
  n4 : NoAttr K C "ascending"
  n5 : NoAttr K C "many"
  n6 : NoAttr K C "total"
/-- a window at x: its row at r, ascending at a, counts at m -/
structure WinAt (C : Addr) (H : Hp) (x r a m : Addr) (f : Fn9) (given : List Cell) (n : Nat) : Prop where
  ne : r ≠ a
  ex : ∃ (dx : Addr) (row : List Cell) (b : Nat) (kvs : List (Key × V)), H x = some (.ins C dx (wf f.name r b a m (ksum (known given)))) ∧ H r = some (.lst (row.map cV)) ∧ H a = some (.lst ((srt (known given)).map kV)) ∧ H m = some (.dK kvs) ∧
    b ≤ row.length ∧ row.drop b = given ∧ Many kvs (known given) ∧ row.length ≤ n
theorem WinAt.fix {C : Addr} {H H' : Hp} {x r a m : Addr} {f : Fn9} {given : List Cell} {n : Nat} (h : WinAt C H x r a m f given n) {S : List Addr} (k : Fix S H H') (q : ∀ y ∈ [x, r, a, m], y ∉ S) : WinAt C H' x r a m f given n := by
  obtain ⟨ne, dx, row, b, kvs, h1, h2, h3, h4, h5⟩ := h
  exact ⟨ne, dx, row, b, kvs, k _ _ (q x (by simp)) h1, k _ _ (q r (by simp)) h2, k _ _ (q a (by simp)) h3, k _ _ (q m (by simp)) h4, h5⟩
theorem WinAt.same {C : Addr} {H H' : Hp} {x r a m : Addr} {f : Fn9} {given : List Cell} {n : Nat} (h : WinAt C H x r a m f given n) (k : Same H H') : WinAt C H' x r a m f given n :=
  h.fix (S := []) (Fix.of k) fun y _ => by simp
theorem WinAt.mono {C : Addr} {H : Hp} {x r a m : Addr} {f : Fn9} {given : List Cell} {n k : Nat} (h : WinAt C H x r a m f given n) (e : n ≤ k) : WinAt C H x r a m f given k := by
  obtain ⟨ne, dx, row, b, kvs, h1, h2, h3, h4, h5, h6, h7, h8⟩ := h
  exact ⟨ne, dx, row, b, kvs, h1, h2, h3, h4, h5, h6, h7, Nat.le_trans h8 e⟩
def nineV : List V := [.str "size", .str "count", .str "different", .str "sum", .str "least", .str "greatest", .str "median", .str "first", .str "last"]
def twoV : List V := [.str "sum", .str "median"]
theorem in_nine (f : Fn9) : inV (.str f.name) nineV = true := by
  cases f <;> decide +kernel
theorem in_two (f : Fn9) : inV (.str f.name) twoV = f.num := by
  cases f <;> decide +kernel
/-- first or last -/
def Fn9.fl : Fn9 → Bool
  | .first => true
  | .last => true
  | _ => false
theorem in_ends (f : Fn9) : inV (.str f.name) [.str "first", .str "last"] = f.fl := by
  cases f <;> decide +kernel
theorem atI_end {α : Type} {xs : List α} {v : α} (h : xs[xs.length - 1]? = some v) : atI xs (-1) = some v := by
  have hj : xs.length - 1 < xs.length := (List.getElem?_eq_some_iff.mp h).1
  have e : ixN xs.length (-1) = some (xs.length - 1) := by
    unfold ixN
    rw [if_neg (by decide), if_pos (by omega)]
    congr 1
    omega
  unfold atI
  rw [e]
  exact h
section
variable {w : World} {K : PySem.W.Frag} {mg : Str → Option Value} {base : Heap} {f : Addr} {fd : FuncData} {C Cb fI : Addr}
/-- BadArgument('y') leaves so -/
def BadOut (Cb : Addr) (y : Str) (H : Hp) (E : XK) : Prop := ∀ d, H d = none → E (.ref Cb) (some d) (upd H d (.xd [(("reason" : Str), .str y)]))
/-! ### Window(function) -/
def spNew (C Cb : Addr) : Sp := fun vs H Q E => ∃ (x dx : Addr) (y : Str), vs = [.ref x, .str y] ∧ H x = some (.ins C dx []) ∧
  ((∃ g : Fn9, y = g.name ∧ ∀ (r a m : Addr) (H' : Hp), H r = none → H a = none → H m = none → WinAt C H' x r a m g [] 0 → Fix [x] H H' → Q .non H') ∨ (inV (.str y) nineV = false ∧ BadOut Cb "function" H E))
theorem scNew : FnScope ["self", "function"] ["self", "function"] (defScope (sWin 0)) := ⟨rfl, rfl, rfl, by decide +kernel, rfl, by decide +kernel, by decide +kernel⟩
theorem ok_new (F : FunD K "__init__" "Window.__init__" (defArgs (sWin 0)) (defBody (sWin 0)) (defScope (sWin 0)) [] [] f fd) (W : WinT K C) {ga : Addr} (gA : mg "AGGREGATES" = some (.ref ga)) (tA : ∀ H, SqT K H ga nineV) (T : BadT K Cb fI) (I0 : IniB K fI Cb) (nsu : mg "super" = none) (gC : mg "BadArgument" = some (.ref Cb)) :
    FnOk thePr w K mg base (L2.CX thePr w) 3 f fd ["self", "function"] (spNew C Cb) := by
  refine F.ok scNew (fun vs H Q E h => ?_) (fun cdv A outer s H vs Q E hr h => ⟨_, pss_cons (ps_if (pt_cmpR op_notIn_seq (pv 1) (pe_glob (v := .ref ga) rfl gA rfl) (by rfl))
      (pss_one (ps_bad rfl rfl T I0 nsu gC hr (by decide +kernel) (takes_of rfl rfl rfl rfl))) pss_nil)
    (PSs.nox (pss_cons (ps_fld (pv 0) (pv 1) rfl) (pss_cons (ps_fld (pv 0) (pe_lst pa_nil) rfl) (pss_cons (ps_fld (pv 0) pe_int rfl) (pss_cons (ps_fld (pv 0) (pe_lst pa_nil) rfl) (pss_cons (ps_fld (pv 0) pe_dnewK rfl) (pss_one (ps_fld (pv 0) pe_int rfl)))))))), ?_⟩)
  · obtain ⟨x, dx, y, rfl, _⟩ := h
    rfl
  · obtain ⟨x, dx, y, rfl, hx, h⟩ := h
    rcases h with ⟨g, rfl, q⟩ | ⟨hin, hE⟩
    · refine ⟨_, rfl, ga, nineV, rfl, .inr (tA H), rfl, by decide, _, rfl, ?_⟩
      refine ifF (by rw [in_nine]; rfl) ?_
      refine ⟨_, rfl, _, rfl, x, C, dx, [], rfl, hx, W.cl, W.n1, by decide, ?_⟩
      refine ⟨Nat.zero_le _, fun r hr0 => ?_⟩
      have nr : r ≠ x := fun e => by
        rw [e, upd_same] at hr0
        cases hr0
      have hr1 : H r = none := by
        rw [upd_ne nr] at hr0
        exact hr0
      refine ⟨_, rfl, x, C, dx, _, rfl, (upd_ne (Ne.symm nr)).trans upd_same, W.cl, W.n2, Nat.lt_of_le_of_lt (pl (Nat.le_refl 0)) (by decide : 1 < 1000), ?_⟩
      refine ⟨_, rfl, x, C, dx, _, rfl, upd_same, W.cl, W.n3, Nat.lt_of_le_of_lt (pl (pl (Nat.le_refl 0))) (by decide : 2 < 1000), ?_⟩
      refine ⟨Nat.zero_le _, fun a ha0 => ?_⟩
      have na : a ≠ x := fun e => by
        rw [e, upd_same] at ha0
        cases ha0
      have nar : a ≠ r := fun e => by
        rw [e, upd_ne nr, upd_ne nr, upd_same] at ha0
        cases ha0
      have ha1 : H a = none := by
        rw [upd_ne na, upd_ne na, upd_ne nar, upd_ne na] at ha0
        exact ha0
      refine ⟨_, rfl, x, C, dx, _, rfl, (upd_ne (Ne.symm na)).trans upd_same, W.cl, W.n4, Nat.lt_of_le_of_lt (pl (pl (pl (Nat.le_refl 0)))) (by decide : 3 < 1000), ?_⟩
      intro m hm0
      have nm : m ≠ x := fun e => by
        rw [e, upd_same] at hm0
        cases hm0
      have nma : m ≠ a := fun e => by
        rw [e, upd_ne na, upd_same] at hm0
        cases hm0
      have nmr : m ≠ r := fun e => by
        rw [e, upd_ne nr, upd_ne (Ne.symm nar), upd_ne nr, upd_ne nr, upd_same] at hm0
        cases hm0
      have hm1 : H m = none := by
        rw [upd_ne nm, upd_ne nma, upd_ne nm, upd_ne nm, upd_ne nmr, upd_ne nm] at hm0
        exact hm0
      refine ⟨_, rfl, x, C, dx, _, rfl, (upd_ne (Ne.symm nm)).trans upd_same, W.cl, W.n5, Nat.lt_of_le_of_lt (pl (pl (pl (pl (Nat.le_refl 0))))) (by decide : 4 < 1000), ?_⟩
      refine ⟨_, rfl, x, C, dx, _, rfl, upd_same, W.cl, W.n6, Nat.lt_of_le_of_lt (pl (pl (pl (pl (pl (Nat.le_refl 0)))))) (by decide : 5 < 1000), ?_⟩
      refine q r a m _ hr1 ha1 hm1 ⟨Ne.symm nar, dx, [], 0, [], ?_, ?_, ?_, ?_, Nat.zero_le _, rfl, Many.nil, Nat.zero_le _⟩ ?_
      · rw [upd_same]
        first | rfl | kernel_rfl
      · rw [upd_ne nr, upd_ne nr, upd_ne (Ne.symm nmr), upd_ne nr, upd_ne (Ne.symm nar), upd_ne nr, upd_ne nr, upd_same]
        rfl
      · rw [upd_ne na, upd_ne na, upd_ne (Ne.symm nma), upd_ne na, upd_same]
        show _ = some (HO.lst ((srt []).map kV))
        rw [srt_nil]
        rfl
      · rw [upd_ne nm, upd_ne nm, upd_same]
      · intro c o hc e
        have cx : c ≠ x := fun z => hc (by rw [z]; simp)
        rw [upd_ne cx, upd_ne cx, upd_ne (ne_of_none e hm1), upd_ne cx, upd_ne (ne_of_none e ha1), upd_ne cx, upd_ne cx, upd_ne (ne_of_none e hr1), upd_ne cx]
        exact e
    · refine ⟨_, rfl, ga, nineV, rfl, .inr (tA H), rfl, by decide, _, rfl, ?_⟩
      refine ifT (by rw [hin]; rfl) ?_
      exact fun d hd => hE d hd
/-! ### size, end_value, given_value, told -/
def spTold (C : Addr) (ok : Fn9 → List Cell → Prop) (val : Fn9 → List Cell → Cell) : Sp := fun vs H Q _ => ∃ (x r a m : Addr) (g : Fn9) (given : List Cell) (n : Nat), vs = [.ref x] ∧ WinAt C H x r a m g given n ∧ ok g given ∧ ∀ H', Same H H' → Q (cV (val g given)) H'
theorem scSize : FnScope ["self"] ["self"] (defScope (sWin 3)) := ⟨rfl, rfl, rfl, by decide +kernel, rfl, by decide +kernel, by decide +kernel⟩
theorem ok_size (F : FunD K "size" "Window.size" (defArgs (sWin 3)) (defBody (sWin 3)) (defScope (sWin 3)) [] [] f fd) (W : WinT K C) (len : mg "len" = none) :
    FnOk thePr w K mg base CX0 1 f fd ["self"] (spTold C (fun _ _ => True) (fun _ => valueOf .size)) := by
  refine F.ok scSize (fun vs H Q E h => ?_) (fun cdv A outer s H vs Q E hr h => ⟨_, PSs.nox (pss_one (ps_ret (pe_op op_sub (pe_callB call_len_seq (by rfl) len PySem.boot_len (pa_cons (pe_fld (pv 0) rfl) pa_nil)) (pe_fld (pv 0) rfl)))), ?_⟩)
  · obtain ⟨x, r, a, m, g, given, n, rfl, _⟩ := h
    rfl
  · obtain ⟨x, r, a, m, g, given, n, rfl, ⟨ne, dx, row, b, kvs, h1, h2, h3, h4, h5, h6, h7, h8⟩, _, q⟩ := h
    refine ⟨_, rfl, x, C, dx, _, _, rfl, h1, W.cl, W.n2, lk2, r, _, rfl, .inl (SqL.of h2), _, rfl, x, C, dx, _, _, rfl, h1, W.cl, W.n3, lk3, _, _, rfl, rfl, ?_⟩
    have e : (((row.map cV).length : Nat) : Int) - (b : Int) = ((given.length : Nat) : Int) := by
      rw [← h6, List.length_drop, List.length_map]
      omega
    show Q (.int (((row.map cV).length : Nat) - (b : Int))) H
    rw [e]
    exact q H (Same.refl H)
theorem scEnd : FnScope ["self"] ["self"] (defScope (sWin 4)) := ⟨rfl, rfl, rfl, by decide +kernel, rfl, by decide +kernel, by decide +kernel⟩
theorem ok_end {fS : Addr} {fdS : FuncData} (F : FunD K "end_value" "Window.end_value" (defArgs (sWin 4)) (defBody (sWin 4)) (defScope (sWin 4)) [] [] f fd) (W : WinT K C)
    (GS : FnOk thePr w K mg base CX0 1 fS fdS ["self"] (spTold C (fun _ _ => True) (fun _ => valueOf .size))) (mS : Meth K C "size" fS) (bS : Binds K fdS ["self"] []) :
    FnOk thePr w K mg base CX0 2 f fd ["self"] (spTold C (fun g _ => g.fl = true) valueOf) := by
  refine F.ok scEnd (fun vs H Q E h => ?_) (fun cdv A outer s H vs Q E hr h => ⟨_, PSs.nox (pss_cons (ps_if (pt_cmpR op_eq (pe_meth0 (pv 0) W.cl mS GS hr bS .nil pass0) pe_int (nomark _)) (pss_one (ps_ret pe_non)) pss_nil)
    (pss_one (ps_ret (pe_ifExp (pt_cmpR op_eq (pe_fld (pv 0) rfl) pe_str (nomark _)) (pe_ix ix_list (pe_fld (pv 0) rfl) (pe_fld (pv 0) rfl) (fun _ _ => rfl)) (pe_ix ix_list (pe_fld (pv 0) rfl) (pe_un un_neg pe_int) (fun _ _ => rfl)))))), ?_⟩)
  · obtain ⟨x, r, a, m, g, given, n, rfl, _⟩ := h
    rfl
  · obtain ⟨x, r, a, m, g, given, n, rfl, hW, hg, q⟩ := h
    have hW0 := hW
    obtain ⟨ne, dx, row, b, kvs, h1, h2, h3, h4, h5, h6, h7, h8⟩ := hW0
    refine ⟨_, rfl, x, dx, _, rfl, h1, lms, x, r, a, m, g, given, n, rfl, hW, trivial, fun H' hs => ?_⟩
    have hW' := hW.same hs
    obtain ⟨ne, dx, row, b, kvs, h1, h2, h3, h4, h5, h6, h7, h8⟩ := hW'
    refine ⟨rfl, _, rfl, ?_⟩
    have e0 : decide (cV (valueOf .size given) = V.int 0) = decide (given.length = 0) := by
      show decide (V.int (given.length : Nat) = V.int 0) = _
      by_cases c : given.length = 0
      · rw [c]
        rfl
      · rw [decide_eq_false c]
        exact decide_eq_false fun z => c (by injection z with z; omega)
    rw [e0]
    by_cases c : given.length = 0
    · refine ifT (decide_eq_true c) ?_
      have z : cV (valueOf g given) = .non := by
        obtain rfl := List.eq_nil_of_length_eq_zero c
        cases g <;> first | rfl | exact absurd hg (by decide)
      have q' := q H' hs
      rw [z] at q'
      exact q'
    · refine ifF (decide_eq_false c) ?_
      refine ⟨_, rfl, x, C, dx, _, _, rfl, h1, W.cl, W.n1, lk1, rfl, _, rfl, ?_⟩
      have lr : row.length - b = given.length := by rw [← h6, List.length_drop]
      have gr : ∀ i, given[i]? = row[b + i]? := fun i => by rw [← h6, List.getElem?_drop]
      refine nameIf .first rfl (fun eg => ?_) (fun eg => ?_)
      · refine ⟨_, rfl, x, C, dx, _, _, rfl, h1, W.cl, W.n2, lk2, _, rfl, x, C, dx, _, _, rfl, h1, W.cl, W.n3, lk3, r, _, _, cV (valueOf g given), rfl, rfl, SqL.of h2, atI_nat ?_, q H' hs⟩
        subst eg
        show (row.map cV)[b]? = some (cV ((given[0]?).getD none))
        rw [gr 0, Nat.add_zero, List.getElem?_map, List.getElem?_eq_getElem (show b < row.length by omega)]
        rfl
      · refine ⟨_, rfl, x, C, dx, _, _, rfl, h1, W.cl, W.n2, lk2, _, rfl, r, _, _, cV (valueOf g given), rfl, rfl, SqL.of h2, atI_end ?_, q H' hs⟩
        have eg2 : g = .last := by cases g <;> first | rfl | exact absurd rfl eg | exact absurd hg (by decide)
        subst eg2
        show (row.map cV)[(row.map cV).length - 1]? = some (cV ((given[given.length - 1]?).getD none))
        rw [gr, List.getElem?_map, List.length_map, show b + (given.length - 1) = row.length - 1 by omega, List.getElem?_eq_getElem (show row.length - 1 < row.length by omega)]
        rfl
theorem scGvn : FnScope ["self", "count"] ["self"] (defScope (sWin 5)) := ⟨rfl, rfl, rfl, by decide +kernel, rfl, by decide +kernel, by decide +kernel⟩
/-- of a value that is not None -/
def Fn9.gv : Fn9 → Bool
  | .sum => true
  | .least => true
  | .greatest => true
  | .median => true
  | _ => false
theorem ok_gvn (F : FunD K "given_value" "Window.given_value" (defArgs (sWin 5)) (defBody (sWin 5)) (defScope (sWin 5)) [] [] f fd) (W : WinT K C) (len : mg "len" = none) :
    FnOk thePr w K mg base CX0 1 f fd ["self"] (spTold C (fun g _ => g.gv = true) valueOf) := by
  refine F.ok scGvn (fun vs H Q E h => ?_) (fun cdv A outer s H vs Q E hr h => ⟨_, PSs.nox (pss_cons (ps_set (i := 1) scGvn.nd rfl (Or.inl rfl) (pe_callB call_len_seq (by rfl) len PySem.boot_len (pa_cons (pe_fld (pv 0) rfl) pa_nil)))
    (pss_cons (ps_if (pt_cmpR op_eq (pv 1) pe_int (nomark _)) (pss_one (ps_ret pe_non)) pss_nil)
    (pss_cons (ps_if (pt_cmpR op_eq (pe_fld (pv 0) rfl) pe_str (nomark _)) (pss_one (ps_ret (pe_fld (pv 0) rfl))) pss_nil)
    (pss_cons (ps_if (pt_cmpR op_eq (pe_fld (pv 0) rfl) pe_str (nomark _)) (pss_one (ps_ret (pe_ix ix_list (pe_fld (pv 0) rfl) pe_int (fun _ _ => rfl)))) pss_nil)
    (pss_one (ps_ret (pe_ifExp (pt_cmpR op_eq (pe_fld (pv 0) rfl) pe_str (nomark _)) (pe_ix ix_list (pe_fld (pv 0) rfl) (pe_un un_neg pe_int) (fun _ _ => rfl))
      (pe_ix ix_list (pe_fld (pv 0) rfl) (pe_op op_fdiv (pe_op op_sub (pv 1) pe_int) pe_int) (fun _ _ => rfl))))))))), ?_⟩)
  · obtain ⟨x, r, a, m, g, given, n, rfl, _⟩ := h
    rfl
  · obtain ⟨x, r, a, m, g, given, n, rfl, ⟨ne, dx, row, b, kvs, h1, h2, h3, h4, h5, h6, h7, h8⟩, hg, q⟩ := h
    have q := q H (Same.refl H)
    refine ⟨_, rfl, x, C, dx, _, _, rfl, h1, W.cl, W.n4, lk4, a, _, rfl, .inl (SqL.of h3), ?_⟩
    have el : ((srt (known given)).map kV).length = (known given).length := by rw [List.length_map, srt_length]
    rw [el]
    refine ⟨_, rfl, rfl, _, rfl, ?_⟩
    have e0 : decide (V.int ((known given).length : Nat) = V.int 0) = decide ((known given).length = 0) := by
      by_cases c : (known given).length = 0
      · rw [c]
        rfl
      · rw [decide_eq_false c]
        exact decide_eq_false fun z => c (by injection z with z; omega)
    rw [e0]
    by_cases c : (known given).length = 0
    · refine ifT (decide_eq_true c) ?_
      have z : cV (valueOf g given) = .non := by
        have e : known given = [] := List.eq_nil_of_length_eq_zero c
        cases g <;> first | (simp [valueOf, e, srt_nil, cV]; done) | exact absurd hg (by decide)
      rw [z] at q
      exact q
    · refine ifF (decide_eq_false c) ?_
      have hne : known given ≠ [] := fun e => c (by rw [e]; rfl)
      refine ⟨_, rfl, x, C, dx, _, _, rfl, h1, W.cl, W.n1, lk1, rfl, _, rfl, ?_⟩
      refine nameIf .sum rfl (fun eg => ?_) (fun eg => ?_)
      · subst eg
        refine ⟨_, rfl, x, C, dx, _, _, rfl, h1, W.cl, W.n6, lk6, ?_⟩
        have z : cV (valueOf .sum given) = .int (ksum (known given)) := by
          show cV (if known given = [] then none else some (.inl (ksum (known given)))) = _
          rw [if_neg hne]
          rfl
        rw [z] at q
        exact q
      have at_ : ∀ {i : Nat}, i < (known given).length → (srt (known given))[i]? = valueOf g given → ((srt (known given)).map kV)[i]? = some (cV (valueOf g given)) := fun {i} hi e => by
        rw [← e, List.getElem?_map, List.getElem?_eq_getElem (by rw [srt_length]; exact hi)]
        rfl
      refine ⟨_, rfl, x, C, dx, _, _, rfl, h1, W.cl, W.n1, lk1, rfl, _, rfl, ?_⟩
      refine nameIf .least rfl (fun eg2 => ?_) (fun eg2 => ?_)
      · subst eg2
        exact ⟨_, rfl, x, C, dx, _, _, rfl, h1, W.cl, W.n4, lk4, a, _, _, _, rfl, rfl, SqL.of h3, atI_nat (j := 0) (at_ (by omega) rfl), q⟩
      refine ⟨_, rfl, x, C, dx, _, _, rfl, h1, W.cl, W.n1, lk1, rfl, _, rfl, ?_⟩
      refine nameIf .greatest rfl (fun eg3 => ?_) (fun eg3 => ?_)
      · subst eg3
        refine ⟨_, rfl, x, C, dx, _, _, rfl, h1, W.cl, W.n4, lk4, _, rfl, a, _, _, _, rfl, rfl, SqL.of h3, atI_end ?_, q⟩
        rw [el]
        exact at_ (by omega) rfl
      · have eg4 : g = .median := by cases g <;> first | rfl | exact absurd rfl eg | exact absurd rfl eg2 | exact absurd rfl eg3 | exact absurd hg (by decide)
        subst eg4
        refine ⟨_, rfl, x, C, dx, _, _, rfl, h1, W.cl, W.n4, lk4, _, rfl, _, _, rfl, rfl, _, _, rfl, rfl, ⟨by decide, by decide⟩, ?_⟩
        have e2 : (((known given).length : Int) - 1) / 2 = (((known given).length - 1) / 2 : Nat) := by omega
        refine ⟨a, _, (((known given).length : Int) - 1) / 2, _, rfl, rfl, SqL.of h3, ?_, q⟩
        rw [e2]
        exact atI_nat (at_ (by omega) rfl)
theorem scTold : FnScope ["self"] ["self"] (defScope (sWin 6)) := ⟨rfl, rfl, rfl, by decide +kernel, rfl, by decide +kernel, by decide +kernel⟩
theorem ok_told {fS fE fG : Addr} {fdS fdE fdG : FuncData} (F : FunD K "told" "Window.told" (defArgs (sWin 6)) (defBody (sWin 6)) (defScope (sWin 6)) [] [] f fd) (W : WinT K C) (len : mg "len" = none)
    (GS : FnOk thePr w K mg base CX0 1 fS fdS ["self"] (spTold C (fun _ _ => True) (fun _ => valueOf .size))) (mS : Meth K C "size" fS) (bS : Binds K fdS ["self"] [])
    (GE : FnOk thePr w K mg base CX0 2 fE fdE ["self"] (spTold C (fun g _ => g.fl = true) valueOf)) (mE : Meth K C "end_value" fE) (bE : Binds K fdE ["self"] [])
    (GG : FnOk thePr w K mg base CX0 1 fG fdG ["self"] (spTold C (fun g _ => g.gv = true) valueOf)) (mG : Meth K C "given_value" fG) (bG : Binds K fdG ["self"] []) :
    FnOk thePr w K mg base CX0 3 f fd ["self"] (spTold C (fun _ _ => True) valueOf) := by
  refine F.ok scTold (fun vs H Q E h => ?_) (fun cdv A outer s H vs Q E hr h => ⟨_, PSs.nox (pss_cons (ps_if (pt_cmpR op_eq (pe_fld (pv 0) rfl) pe_str (nomark _)) (pss_one (ps_ret (pe_meth0 (pv 0) W.cl mS GS (hr.mono (by decide)) bS .nil pass0))) pss_nil)
    (pss_cons (ps_if (pt_cmpR op_in_seq (pe_fld (pv 0) rfl) (pe_tup (pa_cons pe_str (pa_cons pe_str pa_nil))) (by rfl)) (pss_one (ps_ret (pe_meth0 (pv 0) W.cl mE GE hr bE .nil pass0))) pss_nil)
    (pss_cons (ps_if (pt_cmpR op_eq (pe_fld (pv 0) rfl) pe_str (nomark _)) (pss_one (ps_ret (pe_callB call_len_seq (by rfl) len PySem.boot_len (pa_cons (pe_fld (pv 0) rfl) pa_nil)))) pss_nil)
    (pss_one (ps_ret (pe_ifExp (pt_cmpR op_eq (pe_fld (pv 0) rfl) pe_str (nomark _)) (pe_callB call_lenD (by rfl) len PySem.boot_len (pa_cons (pe_fld (pv 0) rfl) pa_nil))
      (pe_meth0 (pv 0) W.cl mG GG (hr.mono (by decide)) bG .nil pass0))))))), ?_⟩)
  · obtain ⟨x, r, a, m, g, given, n, rfl, _⟩ := h
    rfl
  · obtain ⟨x, r, a, m, g, given, n, rfl, hW, _, q⟩ := h
    have hW0 := hW
    obtain ⟨ne, dx, row, b, kvs, h1, h2, h3, h4, h5, h6, h7, h8⟩ := hW0
    refine ⟨_, rfl, x, C, dx, _, _, rfl, h1, W.cl, W.n1, lk1, rfl, _, rfl, ?_⟩
    refine nameIf .size rfl (fun eg => ?_) (fun eg => ?_)
    · subst eg
      exact ⟨_, rfl, x, dx, _, rfl, h1, lms, x, r, a, m, _, given, n, rfl, hW, trivial, q⟩
    refine ⟨_, rfl, x, C, dx, _, _, rfl, h1, W.cl, W.n1, lk1, (by show 2 ≤ sizeLine; rw [sizeLine_eq]; decide), fun p hp => ?_⟩
    have s1 : Same H (upd H p (.tup [.str "first", .str "last"])) := same_new hp
    have hW1 := hW.same s1
    have hW0 := hW1
    obtain ⟨ne, dx, row, b, kvs, h1, h2, h3, h4, h5, h6, h7, h8⟩ := hW0
    refine ⟨p, _, rfl, .inr (SqT.of upd_same), rfl, by decide, _, rfl, ?_⟩
    refine ite2 (fun c => ?_) (fun c => ?_)
    · have c2 : g.fl = true := (in_ends g).symm.trans c
      exact ⟨_, rfl, x, dx, _, rfl, h1, lme, x, r, a, m, g, given, n, rfl, hW1, c2, fun H' hs => q H' (s1.trans hs)⟩
    have c2 : g.fl = false := (in_ends g).symm.trans (by simpa using c)
    refine ⟨_, rfl, x, C, dx, _, _, rfl, h1, W.cl, W.n1, lk1, rfl, _, rfl, ?_⟩
    refine nameIf .count rfl (fun eg2 => ?_) (fun eg2 => ?_)
    · subst eg2
      refine ⟨_, rfl, x, C, dx, _, _, rfl, h1, W.cl, W.n4, lk4, a, _, rfl, .inl (SqL.of h3), ?_⟩
      rw [List.length_map, srt_length]
      exact q _ s1
    refine ⟨_, rfl, x, C, dx, _, _, rfl, h1, W.cl, W.n1, lk1, rfl, _, rfl, ?_⟩
    refine nameIf .different rfl (fun eg3 => ?_) (fun eg3 => ?_)
    · subst eg3
      refine ⟨_, rfl, x, C, dx, _, _, rfl, h1, W.cl, W.n5, lk5, m, kvs, rfl, h4, ?_⟩
      rw [h7.length]
      exact q _ s1
    · have c3 : g.gv = true := by cases g <;> first | rfl | exact absurd rfl eg | exact absurd rfl eg2 | exact absurd rfl eg3 | exact absurd c2 (by decide)
      exact ⟨_, rfl, x, dx, _, rfl, h1, lmg, x, r, a, m, g, given, n, rfl, hW1, c3, fun H' hs => q H' (s1.trans hs)⟩
end
end K13
set_option Elab.async false
set_option linter.all false
set_option maxRecDepth 100000
set_option maxHeartbeats 4000000
/-! Window: add, drop. -/
namespace K13
open PySem PySem.Spec PyProof.Rows L2
/-- the four objects of a window, bare -/
structure WinS (C : Addr) (H : Hp) (x r a m : Addr) (fn : Str) (row : List Cell) (b : Nat) (asc : List Key) (kvs : List (Key × V)) (t : Int) : Prop where
  ne : r ≠ a
  hx : ∃ dx : Addr, H x = some (.ins C dx (wf fn r b a m t))
  hr : H r = some (.lst (row.map cV))
  ha : H a = some (.lst (asc.map kV))
  hm : H m = some (.dK kvs)
section
variable {C : Addr} {H H' : Hp} {x r a m : Addr} {fn : Str} {row row' : List Cell} {b b' : Nat} {asc asc' : List Key} {kvs kvs' : List (Key × V)} {t t' : Int}
theorem WinS.nes (h : WinS C H x r a m fn row b asc kvs t) : x ≠ r ∧ x ≠ a ∧ x ≠ m ∧ r ≠ m ∧ a ≠ m := by
  obtain ⟨ne, ⟨dx, hx⟩, hr, ha, hm⟩ := h
  exact ⟨ne_of hx hr (by intro z; cases z), ne_of hx ha (by intro z; cases z), ne_of hx hm (by intro z; cases z), ne_of hr hm (by intro z; cases z), ne_of ha hm (by intro z; cases z)⟩
theorem WinS.same (h : WinS C H x r a m fn row b asc kvs t) (k : Same H H') : WinS C H' x r a m fn row b asc kvs t := ⟨h.ne, h.hx.imp fun _ e => k _ _ e, k _ _ h.hr, k _ _ h.ha, k _ _ h.hm⟩
theorem WinS.sRow (h : WinS C H x r a m fn row b asc kvs t) : WinS C (upd H r (.lst (row'.map cV))) x r a m fn row' b asc kvs t := by
  obtain ⟨n1, n2, n3, n4, n5⟩ := h.nes
  exact ⟨h.ne, h.hx.imp fun _ e => (upd_ne n1).trans e, upd_same, (upd_ne (Ne.symm h.ne)).trans h.ha, (upd_ne (Ne.symm n4)).trans h.hm⟩
theorem WinS.sAsc (h : WinS C H x r a m fn row b asc kvs t) : WinS C (upd H a (.lst (asc'.map kV))) x r a m fn row b asc' kvs t := by
  obtain ⟨n1, n2, n3, n4, n5⟩ := h.nes
  exact ⟨h.ne, h.hx.imp fun _ e => (upd_ne n2).trans e, (upd_ne h.ne).trans h.hr, upd_same, (upd_ne (Ne.symm n5)).trans h.hm⟩
theorem WinS.sMany (h : WinS C H x r a m fn row b asc kvs t) : WinS C (upd H m (.dK kvs')) x r a m fn row b asc kvs' t := by
  obtain ⟨n1, n2, n3, n4, n5⟩ := h.nes
  exact ⟨h.ne, h.hx.imp fun _ e => (upd_ne n3).trans e, (upd_ne n4).trans h.hr, (upd_ne n5).trans h.ha, upd_same⟩
theorem WinS.sSelf (h : WinS C H x r a m fn row b asc kvs t) (dx : Addr) : WinS C (upd H x (.ins C dx (wf fn r b' a m t'))) x r a m fn row b' asc kvs t' := by
  obtain ⟨n1, n2, n3, n4, n5⟩ := h.nes
  exact ⟨h.ne, ⟨dx, upd_same⟩, (upd_ne (Ne.symm n1)).trans h.hr, (upd_ne (Ne.symm n2)).trans h.ha, (upd_ne (Ne.symm n3)).trans h.hm⟩
theorem WinAt.bare {f : Fn9} {given : List Cell} {n : Nat} (h : WinAt C H x r a m f given n) :
    ∃ (row : List Cell) (b : Nat) (kvs : List (Key × V)), WinS C H x r a m f.name row b (srt (known given)) kvs (ksum (known given)) ∧ b ≤ row.length ∧ row.drop b = given ∧ Many kvs (known given) ∧ row.length ≤ n := by
  obtain ⟨ne, dx, row, b, kvs, h1, h2, h3, h4, h5⟩ := h
  exact ⟨row, b, kvs, ⟨ne, ⟨dx, h1⟩, h2, h3, h4⟩, h5⟩
theorem WinS.full {f : Fn9} {given : List Cell} {n : Nat} (h : WinS C H x r a m f.name row b asc kvs t) (ea : asc = srt (known given)) (et : t = ksum (known given)) (h1 : b ≤ row.length) (h2 : row.drop b = given) (h3 : Many kvs (known given)) (h4 : row.length ≤ n) :
    WinAt C H x r a m f given n := by
  subst ea et
  obtain ⟨ne, ⟨dx, hx⟩, hr, ha, hm⟩ := h
  exact ⟨ne, dx, row, b, kvs, hx, hr, ha, hm, h1, h2, h3, h4⟩
end
/-- it is a text -/
def cText : Cell → Bool
  | some (.inr _) => true
  | _ => false
theorem cell_ty (K : PySem.W.Frag) (H : Hp) (c : Cell) : ∃ t, TyX K H (cV c) t ∧ PySem.W.kitOne K t (.type "str") = some (cText c) := by
  cases c with
  | none => exact ⟨_, .base .non, kit_ty (r := false) (by decide +kernel)⟩
  | some k =>
    cases k with
    | inl i => exact ⟨_, .base (.int i), kit_ty (r := false) (by decide +kernel)⟩
    | inr y => exact ⟨_, .base (.str y), kit_ty (r := true) (by decide +kernel)⟩
theorem cell_non (c : Cell) : decide (cV c = V.non) = c.isNone := by
  cases c with
  | none => rfl
  | some k => cases k <;> rfl
theorem many_get {kvs : List (Key × V)} {l : List Key} (h : Many kvs l) (k : Key) : (valV kvs k).getD (.int 0) = .int (l.count k : Nat) := by
  rw [h.val k]
  by_cases q : k ∈ l
  · rw [if_pos q]
    rfl
  · rw [if_neg q, List.count_eq_zero_of_not_mem q]
    rfl
section
variable {w : World} {K : PySem.W.Frag} {mg : Str → Option Value} {base : Heap} {f : Addr} {fd : FuncData} {C Cb fI fP : Addr} {fdP : FuncData}
def spAdd (C Cb : Addr) : Sp := fun vs H Q E => ∃ (x r a m : Addr) (g : Fn9) (given : List Cell) (n : Nat) (c : Cell), vs = [.ref x, cV c] ∧ WinAt C H x r a m g given n ∧ n < 1000 ∧
  ((g.num && cText c) = true → BadOut Cb "text" H E) ∧ ((g.num && cText c) = false → ∀ H', Fix [x, r, a, m] H H' → WinAt C H' x r a m g (given ++ [c]) (n + 1) → Q .non H')
theorem scAdd : FnScope ["self", "value"] ["self", "value"] (defScope (sWin 1)) := ⟨rfl, rfl, rfl, by decide +kernel, rfl, by decide +kernel, by decide +kernel⟩
theorem ok_add (F : FunD K "add" "Window.add" (defArgs (sWin 1)) (defBody (sWin 1)) (defScope (sWin 1)) [] [] f fd) (W : WinT K C) {gn : Addr} (gN : mg "NO_TEXTS" = some (.ref gn)) (tN : ∀ H, SqT K H gn twoV) (T : BadT K Cb fI) (I0 : IniB K fI Cb) (nsu : mg "super" = none) (gC : mg "BadArgument" = some (.ref Cb))
    (GP : FnOk thePr w K mg base CX0 2 fP fdP ["given", "value"] (spPla K)) (gP : mg "place_in" = some (.ref fP)) (kP : PySem.W.keepIn K (.ref fP) = true) (bP : Binds K fdP ["given", "value"] []) (iso : mg "isinstance" = none) (str : mg "str" = none) :
    FnOk thePr w K mg base (L2.CX thePr w) 3 f fd ["self", "value"] (spAdd C Cb) := by
  refine F.ok scAdd (fun vs H Q E h => ?_) (fun cdv A outer s H vs Q E hr h => ⟨_, pss_cons (ps_if (PW.pt (pw_and (pt_cmpR op_in_seq (pe_fld (pv 0) rfl) (pe_glob (v := .ref gn) rfl gN rfl) (by rfl))
        (pw_and1 (pt_val (pe_callB call_isi (by rfl) iso PyProof.Rows.boot_isinstance (pa_cons (pv 1) (pa_cons (pe_bltn (v := .ty "str") rfl str (by decide +kernel) rfl) pa_nil)))))))
      (pss_one (ps_bad rfl rfl T I0 nsu gC hr (by decide +kernel) (takes_of rfl rfl rfl rfl))) pss_nil)
    (PSs.nox (pss_cons (ps_expr (pe_bm PySem.F.plainAttrs_list PySem.F.slot_list_append PySem.F.type_list_append mt_append (pe_fld (pv 0) rfl) (pa_cons (pv 1) pa_nil)))
      (pss_one (ps_if (pt_cmpR op_notN (pv 1) pe_non (nomark _))
        (pss_cons (ps_expr (pe_bm PySem.F.plainAttrs_list PySem.F.slot_list_insert PySem.F.type_list_insert mt_insert (pe_fld (pv 0) rfl) (pa_cons (pe_call GP hr (by rfl) gP kP bP .nil pass0 (pa_cons (pe_fld (pv 0) rfl) (pa_cons (pv 1) pa_nil))) (pa_cons (pv 1) pa_nil))))
        (pss_cons (ps_dput (hu_of hr) (pe_fld (pv 0) rfl) (pv 1) (pe_op op_add (pe_dget2 (hu_of hr) (pe_fld (pv 0) rfl) (pv 1) pe_int ⟨rfl, rfl, rfl, rfl⟩) pe_int) rfl)
        (pss_one (ps_if (pt_not (pt_val (pe_callB call_isi (by rfl) iso PyProof.Rows.boot_isinstance (pa_cons (pv 1) (pa_cons (pe_bltn (v := .ty "str") rfl str (by decide +kernel) rfl) pa_nil)))))
          (pss_one (ps_fldaug (pv 0) (pv 1) in_add)) pss_nil)))) pss_nil)))), ?_⟩)
  · obtain ⟨x, r, a, m, g, given, n, c, rfl, _⟩ := h
    rfl
  · obtain ⟨x, r, a, m, g, given, n, c, rfl, hW, hn, hE, q⟩ := h
    obtain ⟨row, b, kvs, S0, p1, p2, p3, p4⟩ := hW.bare
    obtain ⟨dx, hx⟩ := S0.hx
    have hsz : (1000 : Nat) < sizeLine := by rw [sizeLine_eq]; decide
    have gl : given.length ≤ n := by
      rw [← p2, List.length_drop]
      omega
    have kl : (known given).length ≤ n := Nat.le_trans (known_length given) gl
    refine ⟨_, rfl, x, C, dx, _, _, rfl, hx, W.cl, W.n1, lk1, gn, twoV, rfl, .inr (tN H), rfl, by decide, _, rfl, ?_⟩
    rw [show (if false = true then !inV (V.str g.name) twoV else inV (V.str g.name) twoV) = g.num from (in_two g)]
    cases hz : (g.num && cText c) with
    | true =>
      obtain ⟨z1, z2⟩ := Bool.and_eq_true_iff.mp hz
      refine ifT z1 ?_
      obtain ⟨ty, t1, t2⟩ := cell_ty K H c
      refine ⟨_, rfl, _, _, ty, _, _, rfl, .ty _, t1, t2, _, rfl, ?_⟩
      refine ifT z2 ?_
      exact fun d hd => hE hz d hd
    | false =>
      have q := q hz
      obtain ⟨ty, t1, t2⟩ := cell_ty K H c
      refine ite2 (fun z1 => ⟨_, rfl, _, _, ty, _, _, rfl, .ty _, t1, t2, _, rfl, ifF (by rw [z1] at hz; exact hz) ?_⟩) (fun z1 => ifF rfl ?_)
      all_goals
        refine ⟨_, rfl, x, C, dx, _, _, rfl, hx, W.cl, W.n2, lk2, .inl ⟨rfl, _, SqL.of S0.hr⟩, _, rfl, r, _, _, rfl, rfl, S0.hr, (by rw [List.length_map]; omega), ?_⟩
        have S1 : WinS C (upd H r (.lst (row.map cV ++ [cV c]))) x r a m g.name (row ++ [c]) b (srt (known given)) kvs (ksum (known given)) := by
          have z := S0.sRow (row' := row ++ [c])
          rw [List.map_append] at z
          exact z
        have X1 : Fix [x, r, a, m] H (upd H r (.lst (row.map cV ++ [cV c]))) := Fix.upd (by simp)
        have d1 : (row ++ [c]).drop b = given ++ [c] := by rw [List.drop_append_of_le_length p1, p2]
        have l1 : (row ++ [c]).length ≤ n + 1 := by rw [List.length_append, List.length_singleton]; omega
        have b1 : b ≤ (row ++ [c]).length := by rw [List.length_append]; omega
        refine ⟨_, rfl, rfl, _, rfl, ?_⟩
        rw [cell_non]
        cases c with
        | none =>
          refine ifF rfl ?_
          have ek : known (given ++ [none]) = known given := by rw [known_snoc]; exact List.append_nil _
          exact q _ X1 (S1.full (by rw [ek]) (by rw [ek]) b1 d1 (by rw [ek]; exact p3) l1)
        | some k =>
          refine ifT rfl ?_
          have ek : known (given ++ [some k]) = known given ++ [k] := by rw [known_snoc]
          refine ⟨_, rfl, x, C, S1.hx.choose, _, _, rfl, S1.hx.choose_spec, W.cl, W.n4, lk4, .inl ⟨rfl, _, SqL.of S1.ha⟩, _, rfl, x, C, S1.hx.choose, _, _, rfl, S1.hx.choose_spec, W.cl, W.n4, lk4, _, rfl, a, srt (known given), k, rfl, SqL.of S1.ha, srt_asc _, (by rw [srt_length]; omega), fun p H2 hp hs => ?_⟩
          have S2 := S1.same hs
          have X2 := X1.trans (Fix.of hs)
          have pl : p ≤ n := by
            have z := hp.le
            rw [srt_length] at z
            omega
          refine ⟨_, rfl, a, _, p, _, rfl, rfl, S2.ha, (by rw [List.length_map, srt_length]; omega), Int.natCast_nonneg p, (by omega), ?_⟩
          have ea : (((srt (known given)).map kV).take (p : Int).toNat ++ [cV (some k)] ++ ((srt (known given)).map kV).drop (p : Int).toNat) = (srt (known given ++ [k])).map kV := by
            rw [← srt_insert hp, Int.toNat_natCast]
            simp [List.map_take, List.map_drop, cV]
          rw [ea]
          have S3 := S2.sAsc (asc' := srt (known given ++ [k]))
          have X3 := X2.trans (Fix.upd (S := [x, r, a, m]) (o := .lst ((srt (known given ++ [k])).map kV)) (a := a) (by simp))
          have hg := many_get p3 k
          have kvl : kvs.length ≤ n := by
            rw [p3.length]
            exact Nat.le_trans (uniq_length _) kl
          refine ⟨_, rfl, x, C, S3.hx.choose, _, _, rfl, S3.hx.choose_spec, W.cl, W.n5, lk5, m, rfl, .inl ⟨kvs, .inl S3.hm⟩, _, rfl, _, DGet.k S3.hm, ?_⟩
          rw [hg]
          refine ⟨_, _, rfl, rfl, _, rfl, x, C, S3.hx.choose, _, _, rfl, S3.hx.choose_spec, W.cl, W.n5, lk5, _, rfl, m, _, rfl, DPut.k S3.hm (by omega), ?_⟩
          have S4 := S3.sMany (kvs' := putK kvs k (.int ((List.count k (known given) : Nat) + 1)))
          have X4 := X3.trans (Fix.upd (S := [x, r, a, m]) (o := .dK (putK kvs k (.int ((List.count k (known given) : Nat) + 1)))) (a := m) (by simp))
          have M4 := p3.add k
          obtain ⟨ty, t1, t2⟩ := cell_ty K (upd (upd H2 a (.lst ((srt (known given ++ [k])).map kV))) m (.dK (putK kvs k (.int ((List.count k (known given) : Nat) + 1))))) (some k)
          refine ⟨_, rfl, _, _, ty, _, _, rfl, .ty _, t1, t2, _, rfl, ?_⟩
          cases k with
          | inr y =>
            refine ifF rfl ?_
            exact q _ X4 (S4.full (by rw [ek]) (by rw [ek, ksum_snoc]; exact (Int.add_zero _).symm) b1 d1 (by rw [ek]; exact M4) l1)
          | inl i =>
            refine ifT rfl ?_
            obtain ⟨dx4, hx4⟩ := S4.hx
            refine ⟨_, rfl, x, C, dx4, _, _, rfl, hx4, W.cl, W.n6, lk6, _, rfl, _, _, rfl, rfl, dx4, _, hx4, (by show (6 : Nat) < 1000; decide), ?_⟩
            rw [pt6]
            exact q _ (X4.trans (Fix.upd (by simp))) ((S4.sSelf (b' := b) dx4).full (by rw [ek]) (by rw [ek, ksum_snoc]; rfl) b1 d1 (by rw [ek]; exact M4) l1)
def spDropW (C Cb : Addr) : Sp := fun vs H Q E => ∃ (x r a m : Addr) (g : Fn9) (given : List Cell) (n : Nat), vs = [.ref x] ∧ WinAt C H x r a m g given n ∧ n < 1000 ∧
  (given = [] → BadOut Cb "empty" H E) ∧ (∀ c rest, given = c :: rest → ∀ H', Fix [x, r, a, m] H H' → WinAt C H' x r a m g rest n → Q .non H')
theorem scDropW : FnScope ["self", "value"] ["self"] (defScope (sWin 2)) := ⟨rfl, rfl, rfl, by decide +kernel, rfl, by decide +kernel, by decide +kernel⟩
theorem ok_dropW (F : FunD K "drop" "Window.drop" (defArgs (sWin 2)) (defBody (sWin 2)) (defScope (sWin 2)) [] [] f fd) (W : WinT K C) (T : BadT K Cb fI) (I0 : IniB K fI Cb) (nsu : mg "super" = none) (gC : mg "BadArgument" = some (.ref Cb))
    (GP : FnOk thePr w K mg base CX0 2 fP fdP ["given", "value"] (spPla K)) (gP : mg "place_in" = some (.ref fP)) (kP : PySem.W.keepIn K (.ref fP) = true) (bP : Binds K fdP ["given", "value"] []) (iso : mg "isinstance" = none) (str : mg "str" = none) (len : mg "len" = none) :
    FnOk thePr w K mg base (L2.CX thePr w) 3 f fd ["self"] (spDropW C Cb) := by
  refine F.ok scDropW (fun vs H Q E h => ?_) (fun cdv A outer s H vs Q E hr h => ⟨_, pss_cons (ps_if (pt_cmpR op_eq (pe_fld (pv 0) rfl) (pe_callB call_len_seq (by rfl) len PySem.boot_len (pa_cons (pe_fld (pv 0) rfl) pa_nil)) (nomark _))
      (pss_one (ps_bad rfl rfl T I0 nsu gC hr (by decide +kernel) (takes_of rfl rfl rfl rfl))) pss_nil)
    (PSs.nox (pss_cons (ps_set (i := 1) scDropW.nd rfl (Or.inl rfl) (pe_ix ix_list (pe_fld (pv 0) rfl) (pe_fld (pv 0) rfl) (fun _ _ => rfl)))
      (pss_cons (ps_fldaug (pv 0) pe_int in_add)
      (pss_one (ps_if (pt_cmpR op_notN (pv 1) pe_non (nomark _))
        (pss_cons (ps_expr (pe_bm PySem.F.plainAttrs_list PySem.F.slot_list_pop PySem.F.type_list_pop mt_popAt (pe_fld (pv 0) rfl) (pa_cons (pe_call GP hr (by rfl) gP kP bP .nil pass0 (pa_cons (pe_fld (pv 0) rfl) (pa_cons (pv 1) pa_nil))) pa_nil)))
        (pss_cons (ps_dput (hu_of hr) (pe_fld (pv 0) rfl) (pv 1) (pe_op op_sub (pe_dget (hu_of hr) (pe_fld (pv 0) rfl) (pv 1) (fun _ _ => rfl)) pe_int) rfl)
        (pss_cons (ps_if (pt_cmpR op_eq (pe_dget (hu_of hr) (pe_fld (pv 0) rfl) (pv 1) (fun _ _ => rfl)) pe_int (nomark _)) (pss_one (ps_ddel (pe_fld (pv 0) rfl) (pv 1))) pss_nil)
        (pss_one (ps_if (pt_not (pt_val (pe_callB call_isi (by rfl) iso PyProof.Rows.boot_isinstance (pa_cons (pv 1) (pa_cons (pe_bltn (v := .ty "str") rfl str (by decide +kernel) rfl) pa_nil)))))
          (pss_one (ps_fldaug (pv 0) (pv 1) in_sub)) pss_nil))))) pss_nil))))), ?_⟩)
  · obtain ⟨x, r, a, m, g, given, n, rfl, _⟩ := h
    rfl
  · obtain ⟨x, r, a, m, g, given, n, rfl, hW, hn, hE, q⟩ := h
    obtain ⟨row, b, kvs, S0, p1, p2, p3, p4⟩ := hW.bare
    obtain ⟨dx, hx⟩ := S0.hx
    have hsz : (1000 : Nat) < sizeLine := by rw [sizeLine_eq]; decide
    have gl : given.length = row.length - b := by rw [← p2, List.length_drop]
    have kl : (known given).length ≤ n := by
      have z := known_length given
      omega
    refine ⟨_, rfl, x, C, dx, _, _, rfl, hx, W.cl, W.n3, lk3, _, rfl, x, C, dx, _, _, rfl, hx, W.cl, W.n2, lk2, r, _, rfl, .inl (SqL.of S0.hr), rfl, _, rfl, ?_⟩
    rw [List.length_map]
    cases given with
    | nil =>
      have e : decide (V.int (b : Nat) = V.int (row.length : Nat)) = true := decide_eq_true (by
        have z : b = row.length := by
          have y := gl
          rw [List.length_nil] at y
          omega
        rw [z])
      refine ifT e ?_
      exact fun d hd => hE rfl d hd
    | cons c rest =>
      have hb : b < row.length := by
        rw [List.length_cons] at gl
        omega
      have e : decide (V.int (b : Nat) = V.int (row.length : Nat)) = false := decide_eq_false fun z => by
        injection z with z
        omega
      refine ifF e ?_
      have q1 := q c rest rfl
      have rb : row[b]? = some c := by
        have z : (row.drop b)[0]? = some c := by rw [p2]; rfl
        rw [List.getElem?_drop, Nat.add_zero] at z
        exact z
      have d1 : row.drop (b + 1) = rest := by
        rw [← List.drop_drop, p2]
        rfl
      refine ⟨_, rfl, x, C, dx, _, _, rfl, hx, W.cl, W.n2, lk2, _, rfl, x, C, dx, _, _, rfl, hx, W.cl, W.n3, lk3, r, _, _, cV c, rfl, rfl, SqL.of S0.hr, atI_nat (by rw [List.getElem?_map, rb]; rfl), ?_⟩
      refine ⟨_, rfl, x, C, dx, _, _, rfl, hx, W.cl, W.n3, lk3, _, _, rfl, rfl, dx, _, hx, (by show (6 : Nat) < 1000; decide), ?_⟩
      rw [pt3]
      have S1 := S0.sSelf (b' := b + 1) (t' := ksum (known (c :: rest))) dx
      have X1 : Fix [x, r, a, m] H (upd H x (.ins C dx (wf g.name r ((b + 1 : Nat) : Int) a m (ksum (known (c :: rest)))))) := Fix.upd (by simp)
      refine ⟨_, rfl, rfl, _, rfl, ?_⟩
      rw [cell_non]
      cases c with
      | none =>
        refine ifF rfl ?_
        have ek : known (none :: rest) = known rest := by rw [known_cons]; rfl
        exact q1 _ X1 (S1.full (by rw [ek]) (by rw [ek]) (by omega) d1 (by rw [← ek]; exact p3) p4)
      | some k =>
        refine ifT rfl ?_
        have ek : known (some k :: rest) = k :: known rest := by rw [known_cons]; rfl
        rw [ek] at S1 p3 kl X1
        rw [ek]
        generalize hH1 : upd H x (.ins C dx (wf g.name r ((b + 1 : Nat) : Int) a m (ksum (k :: known rest)))) = H1 at S1 X1
        have hH1' : upd H x (.ins C dx (wf g.name r ((b : Int) + 1) a m (ksum (k :: known rest)))) = H1 := hH1
        rw [hH1']
        have S1h := S1.hx
        obtain ⟨dx1, hx1⟩ := S1h
        refine ⟨_, rfl, x, C, dx1, _, _, rfl, hx1, W.cl, W.n4, lk4, .inl ⟨rfl, _, SqL.of S1.ha⟩, _, rfl, x, C, dx1, _, _, rfl, hx1, W.cl, W.n4, lk4, _, rfl, a, srt (k :: known rest), k, rfl, SqL.of S1.ha, srt_asc _, (by rw [srt_length]; omega), fun p H2 hp hs => ?_⟩
        have S2 := S1.same hs
        have X2 := X1.trans (Fix.of hs)
        have pa := place_at hp List.mem_cons_self
        have pl : p < (srt (k :: known rest)).length := (List.getElem?_eq_some_iff.mp pa).1
        have pl2 : p < (k :: known rest).length := by
          rw [srt_length] at pl
          exact pl
        refine ⟨a, _, p, p, kV k, rfl, rfl, S2.ha, by omega, by omega, ?_, by rw [List.getElem?_map, pa]; rfl, ?_⟩
        · rw [seqIndex_of (Int.natCast_nonneg p) (by rw [List.length_map]; omega), Int.toNat_natCast]
        have ea : ((srt (k :: known rest)).map kV).eraseIdx p = (srt (known rest)).map kV := by
          rw [← srt_erase hp]
          simp [List.eraseIdx_eq_take_drop_succ, List.map_take, List.map_drop]
        rw [ea]
        have S3 := S2.sAsc (asc' := srt (known rest))
        have X3 := X2.trans (Fix.upd (S := [x, r, a, m]) (o := .lst ((srt (known rest)).map kV)) (a := a) (by simp))
        generalize upd H2 a (.lst ((srt (known rest)).map kV)) = H3 at S3 X3
        have kvl : kvs.length ≤ n := by
          rw [p3.length]
          exact Nat.le_trans (uniq_length _) kl
        have gv : valV kvs k = some (.int (((known rest).count k : Nat) + 1)) := by
          rw [p3.val k, if_pos List.mem_cons_self, count_head, if_pos rfl]
          rfl
        obtain ⟨dx3, hx3⟩ := S3.hx
        refine ⟨_, rfl, x, C, dx3, _, _, rfl, hx3, W.cl, W.n5, lk5, _, rfl, m, _, rfl, .inl ⟨kvs, k, .inl S3.hm, rfl, gv.symm⟩, _, _, rfl, rfl, _, rfl, x, C, dx3, _, _, rfl, hx3, W.cl, W.n5, lk5, _, rfl, m, _, rfl, DPut.k S3.hm (by omega), ?_⟩
        have ec : (((known rest).count k : Nat) : Int) + 1 - 1 = (((known rest).count k : Nat) : Int) := by omega
        show tSeq _ _ _ _ (upd H3 m (.dK (putK kvs k (.int ((((known rest).count k : Nat) : Int) + 1 - 1)))))
        rw [ec]
        have S4 := S3.sMany (kvs' := putK kvs k (.int (((known rest).count k : Nat))))
        have X4 := X3.trans (Fix.upd (S := [x, r, a, m]) (o := .dK (putK kvs k (.int (((known rest).count k : Nat))))) (a := m) (by simp))
        generalize upd H3 m (.dK (putK kvs k (.int (((known rest).count k : Nat))))) = H4 at S4 X4
        have g4 : valV (putK kvs k (.int (((known rest).count k : Nat)))) k = some (.int (((known rest).count k : Nat))) := by rw [put_val, if_pos rfl]
        obtain ⟨dx4, hx4⟩ := S4.hx
        refine ⟨_, rfl, x, C, dx4, _, _, rfl, hx4, W.cl, W.n5, lk5, _, rfl, m, _, rfl, .inl ⟨_, k, .inl S4.hm, rfl, g4.symm⟩, rfl, _, rfl, ?_⟩
        have fin : ∀ {H5 : Hp} {kvs5 : List (Key × V)}, WinS C H5 x r a m g.name row (b + 1) (srt (known rest)) kvs5 (ksum (k :: known rest)) → Many kvs5 (known rest) → Fix [x, r, a, m] H H5 →
            ∃ dx5 : Addr, H5 x = some (.ins C dx5 (wf g.name r ((b + 1 : Nat) : Int) a m (ksum (k :: known rest)))) ∧ (∀ y, k = .inr y → Q .non H5) ∧ (∀ i, k = .inl i → Q .non (upd H5 x (.ins C dx5 (wf g.name r ((b + 1 : Nat) : Int) a m (ksum (k :: known rest) - i))))) := fun {H5 kvs5} S5 M5 X5 => by
          obtain ⟨dx5, hx5⟩ := S5.hx
          refine ⟨dx5, hx5, fun y ek2 => ?_, fun i ek2 => ?_⟩
          · subst ek2
            exact q1 _ X5 (S5.full rfl (by rw [ksum_cons]; exact Int.zero_add _) (by omega) d1 M5 p4)
          · subst ek2
            exact q1 _ (X5.trans (Fix.upd (by simp))) ((S5.sSelf dx5).full rfl (by rw [ksum_cons]; show i + ksum (known rest) - i = _; omega) (by omega) d1 M5 p4)
        by_cases hk : k ∈ known rest
        · have hp0 : 0 < (known rest).count k := List.count_pos_iff.mpr hk
          refine ifF (decide_eq_false fun z => by injection z with z; omega) ?_
          obtain ⟨dx5, hx5, q2, q3⟩ := fin S4 (p3.less hk) X4
          obtain ⟨ty, t1, t2⟩ := cell_ty K H4 (some k)
          refine ⟨_, rfl, _, _, ty, _, _, rfl, .ty _, t1, t2, _, rfl, ?_⟩
          cases k with
          | inr y => exact ifF rfl (q2 y rfl)
          | inl i =>
            refine ifT rfl ?_
            refine ⟨_, rfl, x, C, dx5, _, _, rfl, hx5, W.cl, W.n6, lk6, _, rfl, _, _, rfl, rfl, dx5, _, hx5, (by show (6 : Nat) < 1000; decide), ?_⟩
            rw [pt6]
            exact q3 i rfl
        · have hp0 : (known rest).count k = 0 := List.count_eq_zero_of_not_mem hk
          refine ifT (decide_eq_true (by rw [hp0]; rfl)) ?_
          refine ⟨_, rfl, x, C, dx4, _, _, rfl, hx4, W.cl, W.n5, lk5, _, rfl, m, _, k, rfl, S4.hm, rfl, (by rw [g4]; rfl), ?_⟩
          have S5 := S4.sMany (kvs' := dropK (putK kvs k (.int (((known rest).count k : Nat)))) k)
          have X5 := X4.trans (Fix.upd (S := [x, r, a, m]) (o := .dK (dropK (putK kvs k (.int (((known rest).count k : Nat)))) k)) (a := m) (by simp))
          generalize upd H4 m (.dK (dropK (putK kvs k (.int (((known rest).count k : Nat)))) k)) = H5 at S5 X5
          obtain ⟨dx5, hx5, q2, q3⟩ := fin S5 (p3.gone hk) X5
          obtain ⟨ty, t1, t2⟩ := cell_ty K H5 (some k)
          refine ⟨_, rfl, _, _, ty, _, _, rfl, .ty _, t1, t2, _, rfl, ?_⟩
          cases k with
          | inr y => exact ifF rfl (q2 y rfl)
          | inl i =>
            refine ifT rfl ?_
            refine ⟨_, rfl, x, C, dx5, _, _, rfl, hx5, W.cl, W.n6, lk6, _, rfl, _, _, rfl, rfl, dx5, _, hx5, (by show (6 : Nat) < 1000; decide), ?_⟩
            rw [pt6]
            exact q3 i rfl
end
end K13
set_option Elab.async false
set_option linter.all false
set_option maxRecDepth 100000
set_option maxHeartbeats 4000000
/-! _law_refused, _law_made: calls in a try whose exceptions are caught. -/
namespace K13
open PySem PySem.Spec PyProof.Rows L2
/-- what a call in a try may let out, whatever the slots -/
theorem passAll {X : Cx} {W : WX} (n : Nat) (hn : X.N.length = n) (tk : Takes X W) : Passes (L2.CX X.prog X.w) X (fun cls d H => ∀ σ : L2.St, σ.length = n → W cls d σ H) := fun pins σ H s e s' I c =>
  tk e s' (XE.of_call I (fun cls d H' h => h σ (I.len.trans hn)) c)
/-- the caught one stands in its slot -/
theorem slot_set {σ : L2.St} {n i : Nat} (h : σ.length = n) (hi : i < n) (v : V) : (σ.set i (some v))[i]? = some (some v) := List.getElem?_set_self (by rw [h]; exact hi)
section
variable {w : World} {K : PySem.W.Frag} {mg : Str → Option Value} {base : Heap} {f : Addr} {fd : FuncData} {C Cb fI fA fD fN : Addr} {fdA fdD fdN : FuncData}
/-! ### _law_refused -/
def spRef (C : Addr) : Sp := fun vs H Q _ => ∃ (x r a m : Addr) (g : Fn9) (given : List Cell) (n : Nat), WinAt C H x r a m g given n ∧ n < 1000 ∧
  ((∃ c, vs = [.ref x, .str "add", cV c] ∧ ((g.num && cText c) = true → ∀ H', Same H H' → Q (.str "text") H') ∧ ((g.num && cText c) = false → ∀ H', Fix [x, r, a, m] H H' → WinAt C H' x r a m g (given ++ [c]) (n + 1) → Q .non H')) ∨
   (vs = [.ref x, .str "drop", .non] ∧ (given = [] → ∀ H', Same H H' → Q (.str "empty") H') ∧ (∀ c rest, given = c :: rest → ∀ H', Fix [x, r, a, m] H H' → WinAt C H' x r a m g rest n → Q .non H')))
theorem scRef : FnScope ["_law_window", "_law_kind", "_law_value", "e"] ["_law_window", "_law_kind", "_law_value"] (defScope sRef) := ⟨rfl, rfl, rfl, by decide +kernel, rfl, by decide +kernel, by decide +kernel⟩
theorem ok_ref (F : FnP K "_law_refused" "_law_refused" sRef f fd) (W : WinT K C) (T : BadT K Cb fI) (gC : mg "BadArgument" = some (.ref Cb))
    (GA : FnOk thePr w K mg base (L2.CX thePr w) 3 fA fdA ["self", "value"] (spAdd C Cb)) (mA : Meth K C "add" fA) (bA : Binds K fdA ["self", "value"] [])
    (GD : FnOk thePr w K mg base (L2.CX thePr w) 3 fD fdD ["self"] (spDropW C Cb)) (mD : Meth K C "drop" fD) (bD : Binds K fdD ["self"] []) :
    FnOk thePr w K mg base CX0 4 f fd ["_law_window", "_law_kind", "_law_value"] (spRef C) := by
  refine F.ok scRef (fun vs H Q E h => ?_) (fun cdv A outer s H vs Q E hr h => ⟨_, PSs.nox (pss_cons
      (ps_try_as (i := 3) (Wout := fun _ _ _ _ => False) rfl rfl scRef.nd rfl rfl ⟨rfl, by decide, Or.inl gC⟩ takes0
        (fun W' pn xe tk _ => pss_one (ps_if (pt_cmpR op_eq (pv 1) pe_str (nomark _))
          (pss_one (ps_expr (pe_meth (pv 0) W.cl mA GA hr bA .nil (passAll 4 rfl tk) (pa_cons (pv 2) pa_nil))))
          (pss_one (ps_expr (pe_meth0 (pv 0) W.cl mD GD hr bD .nil (passAll 4 rfl tk))))))
        (fun a oe cls d pn hz hf => pss_one (ps_ret (pe_reason T hz hf (pv 3)))))
      (pss_one (ps_ret pe_non))), ?_⟩)
  · obtain ⟨x, r, a, m, g, given, n, _, _, ⟨c, rfl, _⟩ | ⟨rfl, _⟩⟩ := h <;> rfl
  · obtain ⟨x, r, a, m, g, given, n, hW, hn, ⟨c, rfl, q1, q2⟩ | ⟨rfl, q1, q2⟩⟩ := h
    · have hW0 := hW
      obtain ⟨ne, dx, row, b, kvs, h1, _⟩ := hW0
      refine ⟨_, rfl, rfl, _, rfl, ifT (decide_eq_true rfl) ?_⟩
      refine ⟨_, rfl, x, dx, _, rfl, h1, lma, _, rfl, x, r, a, m, g, given, n, c, rfl, hW, hn, fun hz d hd σ' hσ => ?_, fun hz H' hf hw => q2 hz H' hf hw⟩
      exact ⟨true, T.te, fun _ e he => ⟨_, slot_set hσ (by decide) _, rfl, rfl, d, _, rfl, upd_same, q1 hz _ (same_new hd)⟩, fun q => Bool.noConfusion q⟩
    · have hW0 := hW
      obtain ⟨ne, dx, row, b, kvs, h1, _⟩ := hW0
      refine ⟨_, rfl, rfl, _, rfl, ifF (by decide +kernel) ?_⟩
      refine ⟨_, rfl, x, dx, _, rfl, h1, lmd, x, r, a, m, g, given, n, rfl, hW, hn, fun hz d hd σ' hσ => ?_, fun c rest hz H' hf hw => q2 c rest hz H' hf hw⟩
      exact ⟨true, T.te, fun _ e he => ⟨_, slot_set hσ (by decide) _, rfl, rfl, d, _, rfl, upd_same, q1 hz _ (same_new hd)⟩, fun q => Bool.noConfusion q⟩
/-! ### _law_made -/
def spMade : Sp := fun vs H Q _ => ∃ y : Str, vs = [.str y] ∧ inV (.str y) nineV = false ∧ ∀ H', Same H H' → Q (.str "function") H'
theorem scMade : FnScope ["_law_function", "e"] ["_law_function"] (defScope sMade) := ⟨rfl, rfl, rfl, by decide +kernel, rfl, by decide +kernel, by decide +kernel⟩
theorem ok_made (F : FnP K "_law_made" "_law_made" sMade f fd) (T : BadT K Cb fI) (gC : mg "BadArgument" = some (.ref Cb)) (gW : mg "Window" = some (.ref C))
    (M : Mk K C fN) (GN : FnOk thePr w K mg base (L2.CX thePr w) 3 fN fdN ["self", "function"] (spNew C Cb)) (bN : Binds K fdN ["self", "function"] []) :
    FnOk thePr w K mg base CX0 5 f fd ["_law_function"] spMade := by
  refine F.ok scMade (fun vs H Q E h => ?_) (fun cdv A outer s H vs Q E hr h => ⟨_, PSs.nox (pss_cons
      (ps_try_as (i := 1) (Wout := fun _ _ _ _ => False) rfl rfl scMade.nd rfl rfl ⟨rfl, by decide, Or.inl gC⟩ takes0
        (fun W' pn xe tk _ => pss_one (ps_expr (pe_make M GN hr (by rfl) gW bN .nil (passAll 2 rfl tk) (pa_cons (pv 0) pa_nil))))
        (fun a oe cls d pn hz hf => pss_one (ps_ret (pe_reason T hz hf (pv 1)))))
      (pss_one (ps_ret pe_non))), ?_⟩)
  · obtain ⟨y, rfl, _⟩ := h
    rfl
  · obtain ⟨y, rfl, hy, q⟩ := h
    refine ⟨_, rfl, fun x dx hx hdx ne => ⟨x, dx, y, rfl, upd_same, .inr ⟨hy, fun d hd σ' hσ => ?_⟩⟩⟩
    refine ⟨true, T.te, fun _ e he => ⟨_, slot_set hσ (by decide) _, rfl, rfl, d, _, rfl, upd_same, q _ ?_⟩, fun q => Bool.noConfusion q⟩
    have n2 : x ≠ dx := Ne.symm ne
    exact ((same_new hdx).trans (same_new (by rw [upd_ne n2]; exact hx))).trans (same_new hd)
end
end K13
set_option Elab.async false
set_option linter.all false
set_option maxRecDepth 100000
set_option maxHeartbeats 4000000
/-! lambda value: key_of(value), handed to sorted, min, max as key=. -/
namespace K13
open PySem PySem.Spec PyProof.Rows L2
structure LamK (params : Arguments) (scope : Scope) : Prop where
  kind : scope.kind = .function
  co : scope.isCoroutine = false
  gen : scope.isGenerator = false
  cell : ∀ y ∈ scope.names, y.2 ≠ .cell
  free : ∀ y ∈ scope.names, y.2 ≠ .free
  loc : scope.names.lookup ("value" : Str) = some NameKind.local
  glo : scope.names.lookup ("key_of" : Str) = some .globalImplicit
  bind : ∀ (q : Str) (body : Expr) (cl : List (Str × Addr)) (pm cv ctv u : Value), bindArgs (PySem.W.kla_fn "<lambda>" q params body scope cl pm cv ctv) ⟨[u], []⟩ = pure [(("value" : Str), u)]
section
variable {P : Program} {w : World} {K : PySem.W.Frag} {mg : Str → Option Value} {fK : Addr} {fdK : FuncData} {s : Shared} {A : Around} {k : Key} {u : Value}
/-- such a lambda, called -/
theorem lam_raw {R : Result → Shared → Prop} {g c' : Addr} {q : Str} {params : Arguments} {p1 p2 p3 : Pos} {scope : Scope} {cl : List (Str × Addr)} {pm ctv : Value} (LS : LamK params scope)
    (F : FnP K "key_of" "key_of" sKey fK fdK) (bK : Binds K fdK ["value"] []) (gK : mg "key_of" = some (.ref fK)) (ni : mg "isinstance" = none) (ns : mg "str" = none)
    (M : L2.Mod K mg s.heap) (hf : s.heap.get? g = some (PySem.W.kla_obj "<lambda>" q params (.Call (.Name "key_of" p1) [.Name "value" p2] [] p3) scope cl pm c' ctv)) (hc : s.heap.CodeRec (.ref c') q)
    (ru : RelV (kV k) u) (hd : A.depth + 1 < recursionLimit) (h : KeyEnd R s k) : codeAny (model P w) A (.call (.ref g) ⟨[u], []⟩) R s := by
  refine PySem.W.kla_callFunE (by omega) hf rfl LS.co LS.gen rfl hc ?_
  rw [LS.bind]
  refine wpAny_pure (wpAny_newFunctionEnv LS.cell (fun y hy => ?_) (fun h₁ hns hsb => ⟨M.nolimit.fresh _ hsb, ?_⟩) LS.kind)
  · rw [List.mem_singleton.mp hy]
    exact LS.loc
  · have up : ∀ b o, s.heap.get? b = some o → h₁.get? b = some o := fun b o e => hsb.extBut b o (Nat.ne_of_lt (Heap.lt_size e)) (Heap.get?_push_of_some _ e)
    have M1 := mod_up M up
    refine PySem.W.kla_codeExpr ?_
    refine wpAny_Call_Name_kw (raw_glob (s := { s with heap := h₁, toks := s.toks + 1 }) M1 gK ?_ LS.kind LS.glo rfl)
    have ld : ∀ {A' : Around} {tk : Nat} {pos : Pos} {Q : Value → Shared → Prop} {E : Value → Shared → Prop}, Q u { s with heap := h₁, toks := tk } → wpAny (model P w) A' (eval (.Name "value" pos) (PySem.W.envX q scope s.heap.objs.size g (.ref c') cl)) Q E { s with heap := h₁, toks := tk } :=
      fun {A' tk pos Q E} z => raw_loc (s := { s with heap := h₁, toks := tk }) (m := fun y => [(("value" : Str), u)].reverse.lookup y) hns (by rfl) z LS.kind LS.loc
    refine PySem.W.callWith_K (h₀ := h₁) M1.kin F.kp (Calls.spliced_cons (ld (Calls.spliced_nil ⟨M1.kin, ?_⟩))) (by rfl) (by rfl)
    refine wpAny_call (key_raw (s := { s with heap := h₁, toks := s.toks + 1 }) F M1 ni ns (bK _ [u] M1.kin rfl) ru hd ?_)
    intro h' tk p up2 hp kt
    exact h h' tk p (fun b o e => up2 b o (up b o e)) (Nat.le_trans (Nat.le_of_lt hns.lt) hp) kt
/-- f, called with a key from now on, gives its tuple -/
def KFun (P : Program) (w : World) (f : Addr) (s : Shared) : Prop := ∀ (A : Around) (s' : Shared) (k : Key) (u : Value) (R : Result → Shared → Prop), A.depth + 1 < recursionLimit → (∀ b o, s.heap.get? b = some o → s'.heap.get? b = some o) → RelV (kV k) u → KeyEnd R s' k → codeAny (model P w) A (.call (.ref f) ⟨[u], []⟩) R s'
theorem KFun.up {f : Addr} {s s' : Shared} (h : KFun P w f s) (e : ∀ b o, s.heap.get? b = some o → s'.heap.get? b = some o) : KFun P w f s' := fun A s2 k u R hd up => h A s2 k u R hd fun b o q => up b o (e b o q)
end
theorem dataLe_k : PySem.W.dataLe false kz = kle := by
  funext p q
  show (!PySem.W.dataLt (kz q) (kz p)) = !klt q p
  rw [kz_lt]
theorem each_of : ∀ {l : List Key} {us : List Value}, Vals (l.map kV) us → PySem.W.EachIs (fun (v : Value) (k : Key) => RelV (kV k) v) us l
  | [], _, .nil => .nil
  | _ :: _, _, .cons r t => .cons r (each_of t)
theorem of_each : ∀ {l : List Key} {us : List Value}, PySem.W.EachIs (fun (v : Value) (k : Key) => RelV (kV k) v) us l → Vals (l.map kV) us
  | [], _, .nil => .nil
  | _ :: _, _, .cons r t => .cons r (of_each t)
theorem kz_tup (k : Key) : ∃ x r, kz k = .tuple (x :: r) := by
  cases k <;> exact ⟨_, _, rfl⟩
section
variable {X : Cx} {pins : List (Addr × Obj)} {σ : L2.St} {H : Hp} {s : Shared} {a f : Addr} {l : List Key} {Q : VK}
/-- sorted(xs, key=f) -/
theorem sortK_run {n : Nat} (hr : Room n X.A) (I : Inv X pins σ H s) (hs : SqL X.K H a (l.map kV)) (hf : KFun X.prog X.w f s) (q : ∀ p, H p = none → Q (.ref p) (upd H p (.lst ((srt l).map kV)))) :
    wpAny (model X.prog X.w) X.A (call (.builtin "sorted") [.ref a] [(Str.ofString "key", .ref f)]) (EP X pins σ Q) X.xe s := by
  obtain ⟨its, rv, hl, hz⟩ := I.list hs
  rw [List.length_map] at hz
  refine PySem.W.sorted_key_data (b := false) (R := fun (v : Value) (k : Key) => RelV (kV k) v) kz hl.isList (each_of rv) (PySem.W.AllAlike.of fun x y => kz_alike x y) (PySem.W.Sortable.tuples kz_tup) hz (fun x _ => ?_) (ksk_s1 _ _) (fun _ => ksk_l1 _ _) (fun _ => ksk_t1 _ _)
    (fun v k ru _ h tk kp => ?_) fun out c h' tk kp hn hD hlen eo => ?_
  · rw [kz_depth]
    have := hr.un
    omega
  · refine wpAny_call (hf _ { s with heap := h, toks := tk } k v _ (by have := hr.dp; show X.A.depth + 1 < _; omega) kp ru ?_)
    intro h2 tk2 p up hp kt
    exact ⟨h2, tk2, rfl, up, kt.reads⟩
  · rw [dataLe_k] at eo
    have rv2 := of_each eo
    have hl2 : ((srt l).map kV).length ≤ sizeLine := by
      rw [List.length_map, srt_length]
      exact hz
    exact ⟨.ref _, upd H (s.heap.objs.size + 1) (.lst ((srt l).map kV)), I.laid (t' := tk) kp (Nat.le_succ _) ⟨hl2, out, c, rv2, hD⟩, rfl, q _ (I.hok.fresh (Nat.le_succ _))⟩
end
end K13
set_option Elab.async false
set_option linter.all false
set_option maxRecDepth 100000
set_option maxHeartbeats 4000000
/-! min and max with key=. -/
namespace K13
open PySem PySem.Spec PyProof.Rows L2
def kat (l : List Key) (i : Nat) : Key := (l[i]?).getD (.inl 0)
theorem kat_some {l : List Key} {i : Nat} {k : Key} (h : l[i]? = some k) : kat l i = k := by
  unfold kat
  rw [h]
  rfl
theorem best_ok (lt : Nat → Nat → Bool) (irr : ∀ i, lt i i = false) (tr : ∀ i j k, lt i j = true → lt j k = true → lt i k = true) : ∀ n, argBest lt n ≤ n ∧ ∀ j, j ≤ n → lt j (argBest lt n) = false
  | 0 => ⟨Nat.le_refl _, fun j hj => by
      obtain rfl : j = 0 := by omega
      exact irr 0⟩
  | n + 1 => by
    obtain ⟨h1, h2⟩ := best_ok lt irr tr n
    unfold argBest
    cases h : lt (n + 1) (argBest lt n) with
    | true =>
      rw [if_pos rfl]
      refine ⟨Nat.le_refl _, fun j hj => ?_⟩
      by_cases e : j = n + 1
      · rw [e]
        exact irr _
      · cases q : lt j (n + 1) with
        | false => rfl
        | true =>
          have z := h2 j (by omega)
          rw [tr _ _ _ q h] at z
          exact z
    | false =>
      rw [if_neg Bool.false_ne_true]
      refine ⟨by omega, fun j hj => ?_⟩
      by_cases e : j = n + 1
      · rw [e]
        exact h
      · exact h2 j (by omega)
section
variable {P : Program} {w : World} {A : Around} {f a : Addr} {s0 : Shared} {l : List Key} {its : List Value}
/-- all that stood in s0 stands in s -/
structure Stays (s0 s : Shared) : Prop where
  os : s.os = s0.os
  gens : s.gens = s0.gens
  drawn : s.drawn = s0.drawn
  keep : ∀ b o, s0.heap.get? b = some o → s.heap.get? b = some o
theorem Stays.eq {s0 s : Shared} (h : Stays s0 s) : s = { s0 with heap := s.heap, toks := s.toks } := by
  obtain ⟨h1, h2, h3, h4, h5⟩ := s
  obtain ⟨a, b, c, d⟩ := h
  cases a
  cases b
  cases c
  rfl
def KV (l : List Key) (I S : Addr) (i : Nat) (v : Value) (s : Shared) : Prop := ∃ p : Addr, v = .ref p ∧ p ≠ I ∧ p ≠ S ∧ KeyTup s.heap p (kat l i)
theorem keyRun {op : CmpOp} {lt : Key → Key → Bool} (hd : A.depth + 1 < recursionLimit) (hf : KFun P w f s0) (rv : Vals (l.map kV) its) {I S : Addr} (hI : s0.heap.objs.size ≤ I) (hS : s0.heap.objs.size ≤ S)
    (hc : ∀ (k j : Key) (u v : Value) (s : Shared) (Q : Value → Shared → Prop) (E : Value → Shared → Prop), Reads s.heap u (kz k) [] → Reads s.heap v (kz j) [] → Q (.bool (lt k j)) s → wpAny (model P w) A (richCompare op u v) Q E s) :
    KeyRun P w A (.ref f) op S [I] (fun a b => b = a) its.toArray.size (fun i v => its.toArray[i]? = some v) (fun i s => s.heap.IsListIter I a i ∧ s.heap.IsList a its.toArray) (Stays s0) (KV l I S) (fun i j => lt (kat l i) (kat l j)) where
  keep s s' h m := ⟨m.os.trans h.os, m.gens.trans h.gens, m.drawn.trans h.drawn, fun b o e => m.heap b o (fun z => by
    have hb := Heap.lt_size e
    rcases List.mem_cons.mp z with z | z
    · rw [z] at hb
      exact Nat.lt_irrefl _ (Nat.lt_of_lt_of_le hb hS)
    · rw [List.mem_singleton.mp z] at hb
      exact Nat.lt_irrefl _ (Nat.lt_of_lt_of_le hb hI)) (h.keep b o e)⟩
  keepV i v s s' h m := by
    obtain ⟨p, e, h1, h2, us, h3, h4⟩ := h
    refine ⟨p, e, h1, h2, us, m.heap p _ (fun z => ?_) h3, h4⟩
    rcases List.mem_cons.mp z with z | z
    · exact h2 z
    · exact h1 (List.mem_singleton.mp z)
  turn i v s o Q E hi hP hJ hst hSo hQ := by
    have hv : its[i]? = some v := by
      rw [← Array.getElem?_toList] at hP
      exact hP
    have hil : i < l.length := by
      have h1 := (List.getElem?_eq_some_iff.mp hv).1
      rw [← rv.length, List.length_map] at h1
      exact h1
    have hk : l[i]? = some l[i] := List.getElem?_eq_getElem hil
    have ru : RelV (kV (kat l i)) v := by
      obtain ⟨u, hu, r⟩ := rv.get (i := i) (x := kV l[i]) (by rw [List.getElem?_map, hk]; rfl)
      rw [hv] at hu
      cases hu
      rw [kat_some hk]
      exact r
    refine wpAny_call (hf A s (kat l i) v _ hd hJ.keep ru ?_)
    intro h' tk p up hp kt
    refine hQ (.ref p) { s with heap := h', toks := tk } ⟨hJ.os, hJ.gens, hJ.drawn, fun b o e => up b o (hJ.keep b o e)⟩ ⟨hst.1.at fun o e => up _ _ e, hst.2.at fun o e => up _ _ e⟩ (up _ _ hSo) ⟨p, rfl, ?_, ?_, kt⟩ ?_
    · obtain ⟨o2, e, _⟩ := hst.1
      exact Nat.ne_of_gt (Nat.lt_of_lt_of_le (Heap.lt_size e) hp)
    · exact Nat.ne_of_gt (Nat.lt_of_lt_of_le (Heap.lt_size hSo) hp)
    · rintro j k' ⟨p2, e, h1, h2, us, h3, h4⟩
      exact ⟨p2, e, h1, h2, us, up _ _ h3, h4⟩
  cmp i j ki kj s Q E hJ hi hj q := by
    obtain ⟨p1, rfl, _, _, k1⟩ := hi
    obtain ⟨p2, rfl, _, _, k2⟩ := hj
    exact hc _ _ _ _ s Q E k1.reads k2.reads q
end
theorem best_in {l : List Key} {its : List Value} {lt : Key → Key → Bool} {v : Value} (irr : ∀ k, lt k k = false) (tr : ∀ {a b c : Key}, lt a b = true → lt b c = true → lt a c = true) (rv : Vals (l.map kV) its) (hne : l ≠ [])
    (hv : its.toArray[argBest (fun i j => lt (kat l i) (kat l j)) (its.toArray.size - 1)]? = some v) : ∃ m ∈ l, RelV (kV m) v ∧ ∀ x ∈ l, lt x m = false := by
  have hlen : its.length = l.length := by rw [← rv.length, List.length_map]
  have hn0 : 0 < l.length := List.length_pos_iff.mpr hne
  obtain ⟨h1, h2⟩ := best_ok (fun i j => lt (kat l i) (kat l j)) (fun i => irr _) (fun i j k => tr) (its.toArray.size - 1)
  rw [List.size_toArray, hlen] at h1 h2 hv
  generalize argBest (fun i j => lt (kat l i) (kat l j)) (l.length - 1) = b at h1 h2 hv
  have hb : b < l.length := by omega
  have hk : l[b]? = some l[b] := List.getElem?_eq_getElem hb
  obtain ⟨u, hu, r⟩ := rv.get (i := b) (x := kV l[b]) (by rw [List.getElem?_map, hk]; rfl)
  rw [← Array.getElem?_toList] at hv
  have hv2 : its[b]? = some v := hv
  rw [hu] at hv2
  cases hv2
  refine ⟨l[b], List.getElem_mem hb, r, fun x hx => ?_⟩
  obtain ⟨j, hj, e⟩ := List.getElem_of_mem hx
  have z := h2 j (by omega)
  rw [kat_some hk, kat_some (List.getElem?_eq_getElem hj), e] at z
  exact z
section
variable {X : Cx} {pins : List (Addr × Obj)} {σ : L2.St} {H : Hp} {s : Shared} {a f : Addr} {l : List Key} {Q : VK}
theorem minK_run {n : Nat} (hr : Room n X.A) (I : Inv X pins σ H s) (hs : SqL X.K H a (l.map kV)) (hne : l ≠ []) (hf : KFun X.prog X.w f s) (q : ∀ m ∈ l, (∀ x ∈ l, klt x m = false) → Q (kV m) H) :
    wpAny (model X.prog X.w) X.A (call (.builtin "min") [.ref a] [(Str.ofString "key", .ref f)]) (EP X pins σ Q) X.xe s := by
  obtain ⟨its, rv, hl, hz⟩ := I.list hs
  have hlen : its.length = l.length := by rw [← rv.length, List.length_map]
  have ha : a < s.heap.objs.size := by
    obtain ⟨_, _, e, _⟩ := hl
    exact Heap.lt_size e
  have hn0 : 0 < l.length := List.length_pos_iff.mpr hne
  refine call_min_walkK (wpAny_pyIter_list hl.isList ?_)
  refine ⟨s.heap.objs.size, [s.heap.objs.size, a], [s.heap.objs.size], fun a b => b = a, its.toArray.size, _, _, Stays s, KV l s.heap.objs.size (s.heap.objs.size + 1), fun i j => klt (kat l i) (kat l j), rfl,
    (Walks.list (A := X.A.in1) hr.hd s.heap.objs.size a (Nat.ne_of_lt ha) its.toArray).toS, ⟨⟨_, Heap.get?_push_size _ rfl, rfl, rfl⟩, hl.isList.at fun o e => Heap.get?_push_of_some _ e⟩, fun b hb => ?_, by rw [List.size_toArray, hlen]; exact hn0,
    ?_, ⟨rfl, rfl, rfl, fun b o e => Heap.get?_push_of_some _ e⟩, fun v s' hv hJ => ?_⟩
  · show b < (s.heap.push _).objs.size
    rw [Heap.size_push]
    rcases List.mem_cons.mp hb with z | z
    · rw [z]
      exact Nat.lt_succ_self _
    · rw [List.mem_singleton.mp z]
      exact Nat.lt_succ_of_lt ha
  · rw [show (({ s with heap := s.heap.push { cls := .type "list_iterator", data := .fields #[.ref a, .int 0 0] } } : Shared).heap.objs.size) = s.heap.objs.size + 1 from Heap.size_push ..]
    refine keyRun (lt := klt) (by have := hr.dp; show X.A.depth + 1 < _; omega) hf rv (Nat.le_refl _) (Nat.le_succ _) fun k j u v s' Q' E' r1 r2 q' => ?_
    refine PySem.W.rcLt_alike (kz k) (kz j) X.A.in1 s' u v [] [] r1 r2 (kz_alike k j) (kz_none k) ?_ X.prog X.w E' Q' (by rw [kz_lt]; exact q')
    rw [kz_depth, kz_depth]
    have := hr.un
    show X.A.units + 1 + 1 < _
    omega
  · obtain ⟨m, hm, ru, hall⟩ := best_in (lt := klt) klt_irrefl (fun h g => klt_trans h g) rv hne hv
    have J : Inv X pins σ H { s with heap := s'.heap, toks := s'.toks } := I.kept hJ.keep
    rw [← hJ.eq] at J
    exact ⟨kV m, H, J, ru, q m hm hall⟩
theorem maxK_run {n : Nat} (hr : Room n X.A) (I : Inv X pins σ H s) (hs : SqL X.K H a (l.map kV)) (hne : l ≠ []) (hf : KFun X.prog X.w f s) (q : ∀ m ∈ l, (∀ x ∈ l, klt m x = false) → Q (kV m) H) :
    wpAny (model X.prog X.w) X.A (call (.builtin "max") [.ref a] [(Str.ofString "key", .ref f)]) (EP X pins σ Q) X.xe s := by
  obtain ⟨its, rv, hl, hz⟩ := I.list hs
  have hlen : its.length = l.length := by rw [← rv.length, List.length_map]
  have ha : a < s.heap.objs.size := by
    obtain ⟨_, _, e, _⟩ := hl
    exact Heap.lt_size e
  have hn0 : 0 < l.length := List.length_pos_iff.mpr hne
  refine call_max_walkK (wpAny_pyIter_list hl.isList ?_)
  refine ⟨s.heap.objs.size, [s.heap.objs.size, a], [s.heap.objs.size], fun a b => b = a, its.toArray.size, _, _, Stays s, KV l s.heap.objs.size (s.heap.objs.size + 1), fun i j => klt (kat l j) (kat l i), rfl,
    (Walks.list (A := X.A.in1) hr.hd s.heap.objs.size a (Nat.ne_of_lt ha) its.toArray).toS, ⟨⟨_, Heap.get?_push_size _ rfl, rfl, rfl⟩, hl.isList.at fun o e => Heap.get?_push_of_some _ e⟩, fun b hb => ?_, by rw [List.size_toArray, hlen]; exact hn0,
    ?_, ⟨rfl, rfl, rfl, fun b o e => Heap.get?_push_of_some _ e⟩, fun v s' hv hJ => ?_⟩
  · show b < (s.heap.push _).objs.size
    rw [Heap.size_push]
    rcases List.mem_cons.mp hb with z | z
    · rw [z]
      exact Nat.lt_succ_self _
    · rw [List.mem_singleton.mp z]
      exact Nat.lt_succ_of_lt ha
  · rw [show (({ s with heap := s.heap.push { cls := .type "list_iterator", data := .fields #[.ref a, .int 0 0] } } : Shared).heap.objs.size) = s.heap.objs.size + 1 from Heap.size_push ..]
    refine keyRun (lt := fun k j => klt j k) (by have := hr.dp; show X.A.depth + 1 < _; omega) hf rv (Nat.le_refl _) (Nat.le_succ _) fun k j u v s' Q' E' r1 r2 q' => ?_
    refine PySem.W.rcGt_alike (kz k) (kz j) X.A.in1 s' u v [] [] r1 r2 (kz_alike k j) (kz_none k) ?_ X.prog X.w E' Q' (by rw [kz_lt]; exact q')
    rw [kz_depth, kz_depth]
    have := hr.un
    show X.A.units + 1 + 1 < _
    omega
  · obtain ⟨m, hm, ru, hall⟩ := best_in (lt := fun k j => klt j k) klt_irrefl (fun h g => klt_trans g h) rv hne hv
    have J : Inv X pins σ H { s with heap := s'.heap, toks := s'.toks } := I.kept hJ.keep
    rw [← hJ.eq] at J
    exact ⟨kV m, H, J, ru, q m hm hall⟩
end
end K13
set_option Elab.async false
set_option linter.all false
set_option maxRecDepth 100000
set_option maxHeartbeats 4000000
/-! sorted, min, max with key=lambda value: key_of(value); middle, of_given. -/
namespace K13
open PySem PySem.Spec PyProof.Rows L2
open LamX (Tabs TabS ExtN TabB CodeO)
/-- the rule of a def, its code object told -/
theorem okC {P : Program} {w : World} {K : PySem.W.Frag} {mg : Str → Option Value} {base : Heap} {x qual : Str} {params : Arguments} {body : List Stmt} {scope : Scope} {f c : Addr} {fd : FuncData} {CX : CXT} {N ps : List Str} {k : Nat} {sp : Sp}
    (F : FunD K x qual params body scope [] [] f fd) (hc : ∀ (oc : Value) (od : Option Addr) (osl : Array (Option Value)) (c' : Addr), K.lookup f = some ⟨oc, od, .func fd, osl⟩ → fd.code = .ref c' → c = c') (S : FnScope N ps scope) (len : ∀ vs H Q E, sp vs H Q E → vs.length = ps.length)
    (hbody : ∀ (A : Around) (outer : List Env) (s : Shared) (H : Hp) (vs : List V) (Q : VK) (E : XK), Room k (A.deeper (envOfC qual scope s.heap.objs.size f (.ref c))) → sp vs H Q E →
      ∃ t, PSs (cxOf CX P w K mg base N qual scope f (.ref c) A outer s H E) body t ∧ t { nx := fun _ H' => Q .non H', rt := Q } (start N vs) H) : FnOk P w K mg base CX (k + 1) f fd ps sp := by
  obtain ⟨oc, od, dV, kV, doc, pm, an, cdv, ct, osl, rfl, lk, hcd, _, _⟩ := F.ex
  have e : ∃ c', cdv = .ref c' := by
    unfold PySem.W.codeIn at hcd
    split at hcd
    · exact ⟨_, rfl⟩
    · cases hcd
  obtain ⟨c', rfl⟩ := e
  obtain rfl := hc _ _ _ c' lk rfl
  exact fn_of lk hcd S len fun A outer s H vs Q E hr hsp => hbody A outer s H vs Q E hr hsp
/-- the reading of f(e, key=lambda ..): r what f makes of it -/
def tKeyL (K : PySem.W.Frag) (T : List (Addr × Str)) (r : Addr → List Key → Hp → VK → Prop) (te : TE) : TE := fun σ H Q => te σ H fun x H1 => ∃ (a : Addr) (l : List Key), x = .ref a ∧ SqL K H1 a (l.map kV) ∧ Tabs T H1 ∧ ∀ H2, ExtN H1 H2 → Tabs T H2 → r a l H2 Q
def rSrt : Addr → List Key → Hp → VK → Prop := fun _ l H Q => ∀ p, H p = none → Q (.ref p) (upd H p (.lst ((srt l).map kV)))
def rMn : Addr → List Key → Hp → VK → Prop := fun _ l H Q => l ≠ [] ∧ ∀ m ∈ l, (∀ x ∈ l, klt x m = false) → Q (kV m) H
def rMx : Addr → List Key → Hp → VK → Prop := fun _ l H Q => l ≠ [] ∧ ∀ m ∈ l, (∀ x ∈ l, klt m x = false) → Q (kV m) H
theorem sqL_ext {K : PySem.W.Frag} {H H' : Hp} {a : Addr} {xs : List V} (h : SqL K H a xs) (e : ExtN H H') : SqL K H' a xs := by
  rcases h with (h | ⟨o, h⟩) | h
  · exact .inl (.inl (e _ _ h fun ps z => by cases z))
  · exact .inl (.inr ⟨o, e _ _ h fun ps z => by cases z⟩)
  · exact .inr h
section
variable {X : Cx} {T : List (Addr × Str)} {c P fK : Addr} {fdK : FuncData}
theorem pe_keyL {id : String} {x : Str} {e : Expr} {te : TE} {params : Arguments} {scope : Scope} {p p1 p2 p3 lpos kpos pos : Pos} {r : Addr → List Key → Hp → VK → Prop} (hg : Gl X x) (hm : X.mg x = none) (hv : bootBuiltins x = some (.builtin id))
    (LS : LamK params scope) (F : FnP X.K "key_of" "key_of" sKey fK fdK) (bK : Binds X.K fdK ["value"] []) (gK : X.mg "key_of" = some (.ref fK)) (ni : X.mg "isinstance" = none) (ns : X.mg "str" = none)
    (TB : TabB X.base X.mg c P) (hcode : X.env.code = .ref c) (hmT : (P, X.env.qual ++ "<lambda>") ∈ T) (hu : ∀ p ∈ T, p.1 = P → p.2 = X.env.qual ++ "<lambda>") (hdef : defaultsOf params X.env = ([], []))
    (hrun : ∀ (pins : List (Addr × Obj)) (s : Shared) (σ : L2.St) (H : Hp) (a f : Addr) (l : List Key) (Q : VK), Inv X pins σ H s → SqL X.K H a (l.map kV) → KFun X.prog X.w f s → r a l H Q → wpAny (model X.prog X.w) X.A (call (.builtin id) [.ref a] [(Str.ofString "key", .ref f)]) (EP X pins σ Q) X.xe s)
    (he : PE X e te) (hn : x ≠ "__name__" := by decide) (hdb : (x == ("__debug__" : Str)) = false := by decide) (hst : backTo pos (starEach [e] X.env) = (false, eval e X.env) :: backTo pos (starEach [] X.env) := by rfl) :
    PE X (.Call (.Name x p) [e] [⟨some "key", .Lambda params (.Call (.Name "key_of" p1) [.Name "value" p2] [] p3) scope lpos, kpos⟩] pos) (tKeyL X.K T r te) := by
  refine ⟨fun pins s σ H Q I h => ?_⟩
  refine wpAny_Call_Name_kw (ld_blt I hg hm hv ?_ hn hdb)
  refine PyProof.Rows.callWith_kw ?_ hst (by rw [hst]; rfl) (by rfl) (by rfl)
  rw [hst]
  refine Calls.spliced_cons (thn (he.run pins s σ H _ I h) fun u s1 ⟨y, H1, I1, r1, a, l, ey, hS, hT, q⟩ => Calls.spliced_nil ?_)
  subst ey
  obtain rfl : u = Value.ref a := r1
  show wpAny _ _ (evalAll ((do let v ← eval (.Lambda params (.Call (.Name "key_of" p1) [.Name "value" p2] [] p3) scope lpos) X.env; standAt pos; pure v) :: [])) _ _ s1
  refine wpAny_evalAll_cons (wpAny_bind (LamX.lam_make2 I1 TB hcode hmT hu hT hdef (fun y hy e => absurd e (LS.free y hy)) fun f c' pm ctv H2 s2 I2 eN T2 hf hfn hfr hco => wpAny_bind (wpAny_standAt (wpAny_pure (wpAny_evalAll_nil ?_)))))
  have kf : KFun X.prog X.w f s2 := fun A s3 k u R hd up ru hk => by
    obtain ⟨⟨oc, vs, t, hoc, hdc, hvc⟩, _, _⟩ := I2.hok c' _ hco
    exact lam_raw LS F bK gK ni ns (mod_up (mod_up I2.ok.mod I2.bk) up) (up _ _ hf) ⟨c', oc, vs, t, rfl, up _ _ hoc, hdc, hvc⟩ ru hd hk
  exact hrun pins s2 σ H2 a f l Q I2 (sqL_ext hS eN) kf (q H2 eN T2)
end
/-- the name of a code object in a def x -/
abbrev qL (x y : Str) : Str := (x ++ ".<locals>.") ++ y
/-- the three tables -/
abbrev tabT (Pm Po Pa : Addr) : List (Addr × Str) := [(Pm, qL "middle" "<lambda>"), (Po, qL "of_given" "<lambda>"), (Pa, qL "aggregate" "<genexpr>")]
/-- the tables differ -/
structure Tab3 (Pm Po Pa : Addr) : Prop where
  mo : Pm ≠ Po
  ma : Pm ≠ Pa
  oa : Po ≠ Pa
section
variable {P : Program} {w : World} {K : PySem.W.Frag} {mg : Str → Option Value} {base : Heap} {f fK fM : Addr} {fd fdK fdM : FuncData} {c Pm Po Pa : Addr}
abbrev CodeIs (K : PySem.W.Frag) (f : Addr) (fd : FuncData) (c : Addr) : Prop := ∀ (oc : Value) (od : Option Addr) (osl : Array (Option Value)) (c' : Addr), K.lookup f = some ⟨oc, od, .func fd, osl⟩ → fd.code = .ref c' → c = c'
/-! ### middle -/
def spMid (K : PySem.W.Frag) (T : List (Addr × Str)) : Sp := fun vs H Q _ => ∃ (a : Addr) (l : List Key), vs = [.ref a] ∧ SqL K H a (l.map kV) ∧ l ≠ [] ∧ Tabs T H ∧ ∀ (k : Key) (H' : Hp), (srt l)[(l.length - 1) / 2]? = some k → ExtN H H' → Tabs T H' → Q (kV k) H'
theorem scMid : FnScope ["given"] ["given"] (defScope sMid) := ⟨rfl, rfl, rfl, by decide +kernel, rfl, by decide +kernel, by decide +kernel⟩
theorem ok_mid (F : FnP K "middle" "middle" sMid f fd) (hc : CodeIs K f fd c) (FK : FnP K "key_of" "key_of" sKey fK fdK) (bK : Binds K fdK ["value"] []) (gK : mg "key_of" = some (.ref fK)) (ni : mg "isinstance" = none) (ns : mg "str" = none) (nso : mg "sorted" = none) (len : mg "len" = none)
    (TB : TabB base mg c Pm) (D : Tab3 Pm Po Pa) : FnOk P w K mg base CX0 1 f fd ["given"] (spMid K (tabT Pm Po Pa)) := by
  refine okC F hc scMid (fun vs H Q E h => ?_) (fun A outer s H vs Q E hr h => ⟨_, PSs.nox (pss_one (ps_ret (pe_ix ix_list
      (pe_keyL (T := tabT Pm Po Pa) (r := rSrt) (by rfl) nso (by decide +kernel) (by exact ⟨rfl, rfl, rfl, by decide +kernel, by decide +kernel, rfl, rfl, fun _ _ _ _ _ _ _ => rfl⟩) FK bK gK ni ns TB rfl (List.mem_cons_self) (fun p hp e => ?_) (by rfl)
        (fun pins s σ H a f l Q I hs hf q => sortK_run hr I hs hf q) (pv 0))
      (pe_op op_fdiv (pe_op op_sub (pe_callB call_len_seq (by rfl) len PySem.boot_len (pa_cons (pv 0) pa_nil)) pe_int) pe_int) (fun _ _ => rfl)))), ?_⟩)
  · obtain ⟨a, l, rfl, _⟩ := h
    rfl
  · rcases List.mem_cons.mp hp with z | z
    · rw [z]
      rfl
    · rcases List.mem_cons.mp z with z | z
      · rw [z] at e
        exact absurd e.symm D.mo
      · rw [List.mem_singleton.mp z] at e
        exact absurd e.symm D.ma
  · obtain ⟨a, l, rfl, hS, hne, hT, q⟩ := h
    refine ⟨_, rfl, a, l, rfl, hS, hT, fun H2 e2 t2 p hp => ?_⟩
    have s2 := same_new (o := .lst ((srt l).map kV)) hp
    refine ⟨_, rfl, a, _, rfl, .inl (Same.seq s2 (sqL_ext hS e2)), _, _, rfl, rfl, _, _, rfl, rfl, ⟨by decide, by decide⟩, ?_⟩
    rw [List.length_map]
    have hn0 : 0 < l.length := List.length_pos_iff.mpr hne
    have hi : (l.length - 1) / 2 < (srt l).length := by
      rw [srt_length]
      omega
    have e3 : ((l.length : Nat) : Int) - 1 = ((l.length - 1 : Nat) : Int) := by omega
    have e4 : (((l.length : Nat) : Int) - 1) / 2 = (((l.length - 1) / 2 : Nat) : Int) := by
      rw [e3]
      omega
    have ek : (srt l)[(l.length - 1) / 2]? = some (srt l)[(l.length - 1) / 2] := List.getElem?_eq_getElem hi
    refine ⟨p, _, (((l.length : Nat) : Int) - 1) / 2, _, rfl, rfl, SqL.of upd_same, ?_, q _ _ ek (e2.trans (LamX.ExtN.of s2)) (t2.ext s2)⟩
    rw [e4]
    exact atI_nat (by rw [List.getElem?_map, ek]; rfl)
/-! ### of_given -/
def Fn9.og : Fn9 → Bool
  | .sum => true
  | .least => true
  | .greatest => true
  | .median => true
  | _ => false
def spOfG (K : PySem.W.Frag) (T : List (Addr × Str)) : Sp := fun vs H Q _ => ∃ (g : Fn9) (a : Addr) (l : List Key), vs = [.str g.name, .ref a] ∧ g.og = true ∧ SqL K H a (l.map kV) ∧ l ≠ [] ∧ l.length ≤ 1000 ∧ (g = .sum → ∀ k ∈ l, ∃ i : Int, k = .inl i) ∧ Tabs T H ∧
  ∀ (c : Cell) (H' : Hp), (∀ given : List Cell, known given = l → valueOf g given = c) → ExtN H H' → Tabs T H' → Q (cV c) H'
theorem scOfG : FnScope ["function", "given"] ["function", "given"] (defScope sOfG) := ⟨rfl, rfl, rfl, by decide +kernel, rfl, by decide +kernel, by decide +kernel⟩
theorem ok_ofg (F : FnP K "of_given" "of_given" sOfG f fd) (hc : CodeIs K f fd c) (FK : FnP K "key_of" "key_of" sKey fK fdK) (bK : Binds K fdK ["value"] []) (gK : mg "key_of" = some (.ref fK)) (ni : mg "isinstance" = none) (ns : mg "str" = none) (nmi : mg "min" = none) (nma : mg "max" = none) (nsu : mg "sum" = none)
    (GM : FnOk P w K mg base CX0 1 fM fdM ["given"] (spMid K (tabT Pm Po Pa))) (gM : mg "middle" = some (.ref fM)) (kM : PySem.W.keepIn K (.ref fM) = true) (bM : Binds K fdM ["given"] [])
    (TB : TabB base mg c Po) (D : Tab3 Pm Po Pa) : FnOk P w K mg base CX0 2 f fd ["function", "given"] (spOfG K (tabT Pm Po Pa)) := by
  have hu : ∀ p ∈ tabT Pm Po Pa, p.1 = Po → p.2 = qL "of_given" "<lambda>" := fun p hp e => by
    rcases List.mem_cons.mp hp with z | z
    · rw [z] at e
      exact absurd e D.mo
    · rcases List.mem_cons.mp z with z | z
      · rw [z]
      · rw [List.mem_singleton.mp z] at e
        exact absurd e.symm D.oa
  have hmT : (Po, qL "of_given" "<lambda>") ∈ tabT Pm Po Pa := List.mem_cons_of_mem _ List.mem_cons_self
  refine okC F hc scOfG (fun vs H Q E h => ?_) (fun A outer s H vs Q E hr h => ⟨_, PSs.nox (pss_cons (ps_if (pt_cmpR op_eq (pv 0) pe_str (nomark _)) (pss_one (ps_ret (pe_callB (cr_sum rfl) (by rfl) nsu (by decide +kernel) (pa_cons (pv 1) pa_nil)))) pss_nil)
      (pss_cons (ps_if (pt_cmpR op_eq (pv 0) pe_str (nomark _)) (pss_one (ps_ret
        (pe_keyL (T := tabT Pm Po Pa) (r := rMn) (by rfl) nmi (by decide +kernel) (by exact ⟨rfl, rfl, rfl, by decide +kernel, by decide +kernel, rfl, rfl, fun _ _ _ _ _ _ _ => rfl⟩) FK bK gK ni ns TB rfl hmT hu (by rfl)
        (fun pins s σ H a f l Q I hs hf q => minK_run hr I hs q.1 hf q.2) (pv 1)))) pss_nil)
      (pss_cons (ps_if (pt_cmpR op_eq (pv 0) pe_str (nomark _)) (pss_one (ps_ret
        (pe_keyL (T := tabT Pm Po Pa) (r := rMx) (by rfl) nma (by decide +kernel) (by exact ⟨rfl, rfl, rfl, by decide +kernel, by decide +kernel, rfl, rfl, fun _ _ _ _ _ _ _ => rfl⟩) FK bK gK ni ns TB rfl hmT hu (by rfl)
        (fun pins s σ H a f l Q I hs hf q => maxK_run hr I hs q.1 hf q.2) (pv 1)))) pss_nil)
      (pss_one (ps_ret (pe_call GM hr (by rfl) gM kM bM .nil pass0 (pa_cons (pv 1) pa_nil))))))), ?_⟩)
  · obtain ⟨g, a, l, rfl, _⟩ := h
    rfl
  · obtain ⟨g, a, l, rfl, hg, hS, hne, hl, hs, hT, q⟩ := h
    have hn0 : 0 < l.length := List.length_pos_iff.mpr hne
    refine ⟨_, rfl, rfl, _, rfl, ?_⟩
    refine nameIf .sum rfl (fun eg => ?_) (fun eg => ?_)
    · subst eg
      have el : l.map kV = (l.map knum).map V.int := by
        rw [List.map_map]
        refine List.map_congr_left fun k hk => ?_
        obtain ⟨i, rfl⟩ := hs rfl k hk
        rfl
      rw [el] at hS
      refine ⟨_, rfl, a, l.map knum, rfl, hS, ?_⟩
      refine q (some (.inl (ksum l))) H (fun given e => ?_) (LamX.ExtN.refl H) hT
      show (if known given = [] then none else some (Sum.inl (ksum (known given)))) = _
      rw [e, if_neg hne]
    refine ⟨_, rfl, rfl, _, rfl, ?_⟩
    refine nameIf .least rfl (fun eg2 => ?_) (fun eg2 => ?_)
    · subst eg2
      refine ⟨_, rfl, a, l, rfl, hS, hT, fun H2 e2 t2 => ⟨hne, fun m hm hall => ?_⟩⟩
      exact q (some m) H2 (fun given e => by rw [← srt_least hm hall, ← e]; rfl) e2 t2
    refine ⟨_, rfl, rfl, _, rfl, ?_⟩
    refine nameIf .greatest rfl (fun eg3 => ?_) (fun eg3 => ?_)
    · subst eg3
      refine ⟨_, rfl, a, l, rfl, hS, hT, fun H2 e2 t2 => ⟨hne, fun m hm hall => ?_⟩⟩
      exact q (some m) H2 (fun given e => by rw [← srt_greatest hm hall, ← e]; rfl) e2 t2
    · have eg4 : g = .median := by cases g <;> first | rfl | exact absurd rfl eg | exact absurd rfl eg2 | exact absurd rfl eg3 | exact absurd hg (by decide)
      subst eg4
      refine ⟨_, rfl, a, l, rfl, hS, hne, hT, fun k H' ek e2 t2 => ?_⟩
      exact q (some k) H' (fun given e => by rw [← ek, ← e]; rfl) e2 t2
end
end K13
set_option Elab.async false
set_option linter.all false
set_option maxRecDepth 100000
set_option maxHeartbeats 4000000
/-! any(isinstance(x, str) for x in xs), xs a list of numbers, texts, None. -/
namespace K13
open PySem PySem.Spec PyProof.Rows L2
open LamX (Tabs TabS ExtN TabB CodeO)
section
variable {P : Program} {w : World} {K : PySem.W.Frag} {mg : Str → Option Value} {s : Shared} {A : Around} {E : Value → Shared → Prop} {c : Cell} {u : Value}
/-- isinstance(u, str) -/
theorem raw_isiC {Q : Value → Shared → Prop} (M : L2.Mod K mg s.heap) (ru : RelV (cV c) u) (h : ∀ tk, Q (.bool (cText c)) { s with toks := tk }) : wpAny (model P w) A (call (.builtin "isinstance") [u, .type "str"]) Q E s := by
  cases c with
  | none =>
    cases ru
    exact PySem.W.kia_one (K := K) PySem.W.kitx_none M.kin True.intro (kit_ty (show kitB "NoneType" "str" = some false by decide +kernel)) (fun z => nomatch z) h
  | some k =>
    cases k with
    | inl i => exact raw_isi (k := .inl i) M ru h
    | inr y => exact raw_isi (k := .inr y) M ru h
/-- the module stays where all but a code table stays -/
theorem mod_but {h h' : Heap} {T : Addr} {ps : Array Value} (M : L2.Mod K mg h) (nT : K.lookup T = none) (hT : h.get? T = some { cls := .none, data := .fields ps }) (k : ∀ b o, b ≠ T → h.get? b = some o → h'.get? b = some o) : L2.Mod K mg h' := by
  have ns : ∀ {b : Addr} {m : Str → Option Value}, h.Ns b m → h'.Ns b m := fun {b m} ⟨o, es, ep, e, d, r⟩ => ⟨o, es, ep, k b o (fun z => by
    rw [z, hT] at e
    cases e
    cases d) e, d, r⟩
  refine ⟨fun a o e => k a o (fun z => by rw [z, nT] at e; cases e) (M.kin a o e), ns M.glob, ?_, ?_⟩
  · obtain ⟨mb, h1, h2⟩ := M.blt
    exact ⟨mb, ns h1, h2⟩
  · obtain ⟨mc, h1, h2⟩ := M.nolimit
    exact ⟨mc, ns h1, h2⟩
/-- the element: a test of the cell -/
def EltC (P : Program) (w : World) (K : PySem.W.Frag) (mg : Str → Option Value) (scope : Scope) (x : Str) (elt : Expr) (pb : Cell → Bool) : Prop :=
  ∀ (cenv : Env) (A' : Around) (E' : Value → Shared → Prop) (c : Cell) (u : Value) (s₂ : Shared) (m₂ : Str → Option Value), cenv.scope = scope → cenv.globals = mainGlobals → cenv.builtins = builtinsNs → L2.Mod K mg s₂.heap → s₂.heap.Ns cenv.locals m₂ → m₂ x = some u → RelV (cV c) u →
    wpAny (model P w) A' (eval elt cenv) (fun y s₃ => y = .bool (pb c) ∧ Keeps s₂ s₃) E' s₂
theorem elt_isi {scope : Scope} {x : Str} {p1 p2 p3 p4 : Pos} (ni : mg "isinstance" = none) (ns : mg "str" = none) (hk : scope.kind = .function) (hl : scope.names.lookup x = some .local) (hi : scope.names.lookup ("isinstance" : Str) = some .globalImplicit) (hs : scope.names.lookup ("str" : Str) = some .globalImplicit)
    (hd : (x == ("__debug__" : Str)) = false := by decide) : EltC P w K mg scope x (.Call (.Name "isinstance" p1) [.Name x p2, .Name "str" p3] [] p4) cText := by
  intro cenv A' E' c u s₂ m₂ e1 eg eb M hn hm ru
  subst e1
  refine wpAny_Call_Name_kw (raw_blt (s := s₂) M ni boot_isinstance (callWith_builtin1 (Calls.spliced_cons (raw_loc (s := s₂) hn hm (Calls.spliced_cons (raw_blt (s := s₂) M ns (by decide +kernel) (Calls.spliced_nil (raw_isiC (s := s₂) M ru fun tk => ⟨rfl, GxR.keeps_tok _ _⟩)) hk hs eg eb)) hk hl hd)) rfl rfl) hk hi eg eb)
end
def catC (l : List Cell) (i : Nat) : Cell := (l[i]?).getD none
theorem any_cat (l : List Cell) (pb : Cell → Bool) : (List.range l.length).any (fun j => pb (catC l j)) = l.any pb := by
  rw [Bool.eq_iff_iff, List.any_eq_true, List.any_eq_true]
  constructor
  · intro ⟨j, hj, h⟩
    have hj' := List.mem_range.mp hj
    refine ⟨l[j], List.getElem_mem hj', ?_⟩
    unfold catC at h
    rw [List.getElem?_eq_getElem hj'] at h
    exact h
  · intro ⟨b, hb, h⟩
    obtain ⟨j, hj, e⟩ := List.getElem_of_mem hb
    refine ⟨j, List.mem_range.mpr hj, ?_⟩
    unfold catC
    rw [List.getElem?_eq_getElem hj, e]
    exact h
section
variable {X : Cx} {pins : List (Addr × Obj)} {σ : L2.St} {H : Hp} {s : Shared}
/-- other generators, the heap as it was -/
theorem regen {P : Addr} {ps : Array Value} {g' : Array GenState} {d' : Drawn} {t' : Nat} (I : Inv X pins σ H s) (hP : H P = some (.tbl ps)) (hg : AllBare g') : Inv X pins σ H { s with gens := g', drawn := d', toks := t' } := by
  have J := GxR.inv_tab (more := #[]) (h' := s.heap) (g' := g') (d' := d') (t' := t') I hP (fun b o _ e => e) (by rw [Array.append_empty]; exact I.hok P _ hP) hg
  have e : upd H P (.tbl (ps ++ #[])) = H := by
    funext b
    by_cases hb : b = P
    · rw [hb, upd_same, hP, Array.append_empty]
    · rw [upd_ne hb]
  rw [e] at J
  exact J
/-- the tables where one of them got a new code object: what that asks of the state -/
theorem tabs_grow {T : List (Addr × Str)} {P c : Addr} {q : Str} {ps : Array Value} {pos : Pos} {z : Shared} (I : Inv X pins σ H s) (hT : Tabs T H) (hP : H P = some (.tbl ps)) (ht : TriplesOk ps.toList) (known : ∀ (p : Pos) (v : Value), codeAmong p ps.toList = some v → ∃ c, v = .ref c ∧ H c = some (CodeO c q))
    (hu : ∀ p ∈ T, p.1 = P → p.2 = q) (keep : ∀ b u, b ≠ P → s.heap.get? b = some u → z.heap.get? b = some u) (tab : z.heap.get? P = some { cls := .none, data := .fields (ps ++ #[rawInt pos.line, rawInt pos.col, .ref c]) }) (new : s.heap.objs.size ≤ c)
    (ob : ∃ (oc : Obj) (vs : Array Value) (t : Tok), z.heap.get? c = some oc ∧ oc.data = .fields vs ∧ vs[1]? = some (.str q t)) (hos : z.os = s.os) (bare : AllBare z.gens) : ∃ H2, ExtN H H2 ∧ Tabs T H2 ∧ Inv X pins σ H2 z := by
  have free : H c = none := I.hok.fresh new
  generalize hm : #[rawInt pos.line, rawInt pos.col, Value.ref c] = more at tab
  have J := LamX.inv_table (t' := z.toks) (h' := z.heap) (more := more) (q := q) (c := c) I hP keep tab new ob
  have atP : upd (upd H P (.tbl (ps ++ more))) c (CodeO c q) P = some (.tbl (ps ++ more)) := (upd_ne (ne_of_none hP free)).trans upd_same
  have E : ExtN H (upd (upd H P (.tbl (ps ++ more))) c (CodeO c q)) := fun b u e notab => by
    have b1 : b ≠ P := fun y => by
      rw [y, hP] at e
      exact notab ps (Option.some.inj e).symm
    rw [upd_ne (ne_of_none e free), upd_ne b1]
    exact e
  have J2 := regen (g' := z.gens) (d' := z.drawn) (t' := z.toks) J atP bare
  have eta := GxR.sh_eta s z hos
  refine ⟨_, E, fun p hp => ?_, by rw [← eta]; exact J2⟩
  have row : (ps ++ more).toList = ps.toList ++ [rawInt pos.line, rawInt pos.col, Value.ref c] := by
    rw [← hm]
    simp
  by_cases same : p.1 = P
  · rw [hu p hp same, same]
    refine ⟨_, atP, by rw [row]; exact PySem.TriplesOk_snoc _ _ _ _ ht, fun p' v hv => ?_⟩
    rw [row] at hv
    rcases LamX.among_app _ ht hv with y | y
    · obtain ⟨c0, y1, y2⟩ := known p' v y
      exact ⟨c0, y1, E _ _ y2 LamX.codeO_ne⟩
    · exact ⟨c, y, upd_same⟩
  · obtain ⟨qs, y1, y2, y3⟩ := hT p hp
    refine ⟨qs, by rw [upd_ne (ne_of_none y1 free), upd_ne same]; exact y1, y2, fun p' v hv => ?_⟩
    obtain ⟨c0, y4, y5⟩ := y3 p' v hv
    exact ⟨c0, y4, E _ _ y5 LamX.codeO_ne⟩
/-- the generator at a, ready: its items are the tests of l; walked to the end the layer stands again -/
def ReadyC (X : Cx) (pins : List (Addr × Obj)) (σ : L2.St) (H1 : Hp) (T : List (Addr × Str)) (l : List Cell) (pb : Cell → Bool) (a : Addr) (z : Shared) : Prop :=
  ∃ (foot moves : List Addr) (G : Array GenState → Array GenState → Prop) (Is : Nat → Value → Prop) (St : Nat → Shared → Prop), WalksS X.prog X.w X.A.in1 a foot moves G l.length Is St ∧ St 0 z ∧
    TruthOf X.prog X.w X.A.in1 Is (fun j => pb (catC l j)) ∧ ∀ z', Moved moves G z z' → ∃ H2, ExtN H1 H2 ∧ Tabs T H2 ∧ Inv X pins σ H2 z'
/-- a cell's value at its place -/
theorem cell_at {l : List Cell} {its : List Value} (rv : Vals (l.map cV) its) {i : Nat} {v : Value} (hv : its.toArray[i]? = some v) : RelV (cV (catC l i)) v := by
  have hv : its[i]? = some v := by
    rw [← Array.getElem?_toList] at hv
    exact hv
  have hil : i < l.length := by
    have h1 := (List.getElem?_eq_some_iff.mp hv).1
    rw [← rv.length, List.length_map] at h1
    exact h1
  obtain ⟨u, hu, r⟩ := rv.get (i := i) (x := cV l[i]) (by rw [List.getElem?_map, List.getElem?_eq_getElem hil]; rfl)
  rw [hv] at hu
  cases hu
  unfold catC
  rw [List.getElem?_eq_getElem hil]
  exact r
theorem shareG {R C : Value → Heap → Nat → Prop} {G : Prop} (go : (∀ v h t, C v h t → R v h t) → G) (rest : ∀ v h t, C v h t → R v h t) : G := go rest
theorem gen_cells {T : List (Addr × Str)} {c P : Addr} {elt iter : Expr} {x : Str} {px gpos : Pos} {scope : Scope} {pb : Cell → Bool} {te : TE} {k : Nat} {Qg : Value → Shared → Prop} {R : List Cell → Hp → Prop} (hr : Room k X.A) (TB : TabB X.base X.mg c P) (hcode : X.env.code = .ref c) (nP : X.K.lookup P = none)
    (hmT : (P, X.env.qual ++ "<genexpr>") ∈ T) (hu : ∀ p ∈ T, p.1 = P → p.2 = X.env.qual ++ "<genexpr>") (S : GxR.GenS X.env scope x) (hi : PE X iter te) (hel : EltC X.prog X.w X.K X.mg scope x elt pb) (hs : ∀ v, genFold iter X.env v = pure v) (I : Inv X pins σ H s)
    (h : te σ H fun v H1 => ∃ (a : Addr) (l : List Cell), v = .ref a ∧ SqL X.K H1 a (l.map cV) ∧ Tabs T H1 ∧ R l H1) (hQ : ∀ l H1 a z, R l H1 → ReadyC X pins σ H1 T l pb a z → Qg (.ref a) z) :
    wpAny (model X.prog X.w) X.A (eval (.GeneratorExp elt [⟨.Name x px, iter, [], 0⟩] scope gpos) X.env) Qg X.xe s := by
  refine wpAny_GeneratorExp_walksQ hr.hd S.co (closure_ok S.free) S.cell S.dot S.loc S.kind hr.depth (thn (hi.run pins s σ H _ I h) fun xv s1 hx => ?_) hs
  obtain ⟨v, H1, I1, r1, a, l, rfl, hS, hT, q1⟩ := hx
  obtain rfl : xv = Value.ref a := r1
  obtain ⟨ps, hP, ht, known⟩ := hT _ hmT
  obtain ⟨its, rv, hl, _⟩ := I1.list hS
  have hlen : its.toArray.size = l.length := by rw [List.size_toArray, ← rv.length, List.length_map]
  have tab1 := I1.hok P _ hP
  have haP : a ≠ P := fun y => by
    obtain ⟨o, n, e1, e2, _⟩ := hl
    rw [y, tab1] at e1
    cases e1
    cases e2
  have halt : a < s1.heap.objs.size := let ⟨_, _, e1, _⟩ := hl; Heap.lt_size e1
  have M1 : L2.Mod X.K X.mg s1.heap := mod_up I1.ok.mod I1.bk
  refine wpAny_pyIter_list hl.isList ⟨I1.nolimit.push _, ?_⟩
  generalize ho : ({ cls := .type "list_iterator", data := .fields #[.ref a, .int 0 0] } : Obj) = o
  have grow : ∀ b u, s1.heap.get? b = some u → (s1.heap.push o).get? b = some u := fun b u e => Heap.get?_push_of_some _ e
  have size1 : (s1.heap.push o).objs.size = s1.heap.objs.size + 1 := Heap.size_push ..
  have code1 : PySem.W.CodeHd (s1.heap.push o) c P := TB.code.keeps fun b u e => grow b u (I1.bk b u e)
  have lists := fun (A' : Around) (hA : A'.handled = none) => Walks.list (prog := X.prog) (w := X.w) hA s1.heap.objs.size a (Nat.ne_of_lt halt) its.toArray
  have at0 : (s1.heap.push o).IsListIter s1.heap.objs.size a 0 ∧ (s1.heap.push o).IsList a its.toArray := ⟨⟨_, Heap.get?_push_size _ (by rw [← ho]; rfl), by rw [← ho], by rw [← ho]; rfl⟩, hl.isList.at fun o e => grow _ _ e⟩
  have old : ∀ b u, s1.heap.get? b = some u → b ≠ s1.heap.objs.size := fun b u e => Nat.ne_of_lt (Heap.lt_size e)
  -- the generator's code is there, in the heap h3
  apply shareG (C := fun _ h3 _ => (∀ b u, b ≠ P → (s1.heap.push o).get? b = some u → h3.get? b = some u) ∧ s1.heap.objs.size < h3.objs.size ∧
    ∀ z : Shared, z.os = s1.os → AllBare z.gens → (∀ b u, b ≠ s1.heap.objs.size → h3.get? b = some u → z.heap.get? b = some u) → ∃ H2, ExtN H1 H2 ∧ Tabs T H2 ∧ Inv X pins σ H2 z)
  · intro go
    cases hf : codeAmong gpos ps.toList with
    | none =>
      refine wpAny_genexprCodeX hcode (code1.code (grow _ _ tab1) ht) (code1.tab (grow _ _ tab1)) hf fun c' h3 tk hx hge hlt _ hrec htab _ => ?_
      rw [size1] at hge
      have fin : ∀ z : Shared, z.os = s1.os → AllBare z.gens → (∀ b u, b ≠ s1.heap.objs.size → h3.get? b = some u → z.heap.get? b = some u) → ∃ H2, ExtN H1 H2 ∧ Tabs T H2 ∧ Inv X pins σ H2 z := fun z hos bare keep => by
        obtain ⟨c2, oc, vs, t, e2, e3, e4, e5⟩ := hrec
        cases e2
        exact tabs_grow (pos := gpos) I1 hT hP ht known hu (fun b u hb e => keep b u (old b u e) (hx b u hb (grow b u e))) (keep P _ (old P _ tab1) htab.2) (Nat.le_of_succ_le hge) ⟨oc, vs, t, keep _ _ (Nat.ne_of_gt hge) e3, e4, e5⟩ hos bare
      generalize Value.ref c' = cd
      exact go cd h3 tk ⟨hx, Nat.lt_of_lt_of_le hge (Nat.le_of_lt hlt), fin⟩
    | some cv =>
      refine wpAny_genexprCode_hit hcode (code1.code (grow _ _ tab1) ht) hf (go cv _ _ ⟨fun b u _ e => e, by rw [size1]; exact Nat.lt_succ_self _, fun z hos bare keep => ⟨H1, ExtN.refl H1, hT, ?_⟩⟩)
      have J : Inv X pins σ H1 { s1 with heap := z.heap, toks := z.toks } := I1.kept fun b u e => keep b u (old b u e) (grow b u e)
      rw [← GxR.sh_eta s1 z hos]
      exact regen (g' := z.gens) (d' := z.drawn) (t' := z.toks) J hP bare
  · rintro cd h3 tk ⟨hx, hsz, fin⟩
    have keep3 : ∀ b u, b ≠ P → s1.heap.get? b = some u → h3.get? b = some u := fun b u hb e => hx b u hb (grow b u e)
    have M3 : L2.Mod X.K X.mg h3 := mod_but M1 nP tab1 keep3
    obtain ⟨bm, ob, e1, e2, _, e4, e5, e6, e7, e8⟩ := TB.bm
    refine wpAny_builtinsFor (m := X.mg) (by rw [I1.ok.glob]; exact M3.glob) e1 e2 (keep3 _ _ e4 (I1.bk _ _ e5)) e6 e7 e8 ?_
    refine ⟨_, [s1.heap.objs.size, a], [s1.heap.objs.size], its.toArray.size, _, _, fun _ => true, fun i y => y = .bool (pb (catC l i)), rfl, lists, ?_, ?_, M3.nolimit, ?_, fun href up => ⟨?_, ?_⟩, ?_⟩
    · refine (lists X.A hr.hd).frame 0 _ _ at0 fun b hb u e => hx b u (fun y => ?_) e
      rcases List.mem_cons.mp hb with y2 | y2
      · exact old P _ tab1 (y.symm.trans y2)
      · exact haP ((List.mem_singleton.mp y2).symm.trans y)
    · intro b hb
      rcases List.mem_cons.mp hb with y | y
      · exact Nat.lt_of_le_of_lt (Nat.le_of_eq y) hsz
      · exact Nat.lt_trans (Nat.lt_of_le_of_lt (Nat.le_of_eq (List.mem_singleton.mp y)) halt) hsz
    · obtain ⟨mc, n1, _⟩ := M1.nolimit
      exact fun y => Nat.ne_of_lt n1.lt (List.mem_singleton.mp y)
    · intro A' E' i v s2 m2 _ _ _ _ _
      simp only [List.forIn_nil]
      exact wpAny_pure ⟨rfl, GxR.keeps_refl _⟩
    · intro A' E' i v s2 m2 _ hPv _ hn hm hk
      refine hel _ A' E' (catC l i) v s2 m2 rfl I1.ok.glob rfl ?_ hn hm (cell_at rv hPv)
      refine mod_but M1 nP tab1 fun b u hb e => hk b (List.mem_range.mpr (Nat.lt_trans (Heap.lt_size e) hsz)) (fun y => old b u e (List.mem_singleton.mp y)) u (up b u (keep3 b u hb e))
    · intro b h5 t5 gs bare hb hs5 hk5 walks at5
      simp only [GxR.passing_true, List.length_range] at walks
      rw [hlen] at walks at5
      refine hQ l H1 b _ q1 ⟨_, _, _, _, _, walks.in4_1, at5, ?_, fun z hm => fin z hm.os (AllBare.movedS (I1.bare.push bare) hm) fun d u hd e => hm.heap d u (fun y => ?_) (hk5 d u e)⟩
      · intro j y z Qz Ez hy hz
        obtain ⟨i, hij, rfl⟩ := hy
        obtain ⟨_, rfl⟩ := List.getElem?_eq_some_iff.mp hij
        rw [List.getElem_range]
        exact wpAny_truthy_bool hz
      · rcases List.mem_cons.mp y with y | y
        · exact Nat.ne_of_lt (Heap.lt_size e) y
        · exact hd (List.mem_singleton.mp y)
/-- any(test for x in e), e a list -/
def tAnyC (K : PySem.W.Frag) (T : List (Addr × Str)) (pb : Cell → Bool) (te : TE) : TE := fun σ H Q => te σ H fun v H1 => ∃ (a : Addr) (l : List Cell), v = .ref a ∧ SqL K H1 a (l.map cV) ∧ Tabs T H1 ∧ ∀ H2, ExtN H1 H2 → Tabs T H2 → Q (.bl (l.any pb)) H2
theorem pe_anyC {T : List (Addr × Str)} {c P : Addr} {elt iter : Expr} {x : Str} {px p pos gpos : Pos} {scope : Scope} {pb : Cell → Bool} {te : TE} {k : Nat}
    (hr : Room k X.A) (hg : Gl X "any") (hm : X.mg "any" = none) (TB : TabB X.base X.mg c P) (hcode : X.env.code = .ref c) (nP : X.K.lookup P = none) (hmT : (P, X.env.qual ++ "<genexpr>") ∈ T) (hu : ∀ p ∈ T, p.1 = P → p.2 = X.env.qual ++ "<genexpr>") (S : GxR.GenS X.env scope x) (hel : EltC X.prog X.w X.K X.mg scope x elt pb)
    (hs : ∀ v, genFold iter X.env v = pure v) (hi : PE X iter te)
    (he : starEach [.GeneratorExp elt [⟨.Name x px, iter, [], 0⟩] scope gpos] X.env = (false, eval (.GeneratorExp elt [⟨.Name x px, iter, [], 0⟩] scope gpos) X.env) :: starEach [] X.env := by rfl) :
    PE X (.Call (.Name "any" p) [.GeneratorExp elt [⟨.Name x px, iter, [], 0⟩] scope gpos] [] pos) (tAnyC X.K T pb te) := by
  refine ⟨fun pins s σ H Q I h => ?_⟩
  refine wpAny_Call_Name_kw (ld_blt I hg hm boot_any ?_)
  refine PyProof.Rows.callWith_builtin1 ?_ he (by rfl)
  rw [he]
  show wpAny _ _ (spliced ((false, eval (.GeneratorExp elt [⟨.Name x px, iter, [], 0⟩] scope gpos) X.env) :: backTo pos (starEach [] X.env))) _ _ s
  refine Calls.spliced_cons (gen_cells (T := T) (R := fun l H1 => ∀ H2, ExtN H1 H2 → Tabs T H2 → Q (.bl (l.any pb)) H2) hr TB hcode nP hmT hu S hi hel hs I h fun l H1 g s5 hR hG => ?_)
  obtain ⟨fp, wr, G, F, St, W, hst, htr, hI⟩ := hG
  refine Calls.spliced_nil ?_
  refine call_any_walkS (W.self 0 _ _ _ hst ⟨g, fp, wr, G, _, F, St, _, rfl, W, hst, htr, fun s' hmv => ?_⟩)
  obtain ⟨H2, hE, hT, J⟩ := hI s' hmv
  refine ⟨.bl _, H2, J, rfl, ?_⟩
  rw [any_cat l pb]
  exact hR H2 hE hT
end
end K13
set_option Elab.async false
set_option linter.all false
set_option maxRecDepth 100000
set_option maxHeartbeats 4000000
/-! len(set(xs)), xs a list of numbers and texts. -/
namespace K13
open PySem PySem.Spec PyProof.Rows L2
/-- those of the first i -/
def met (l : List Key) (i : Nat) : List Key := uniq (l.take i)
theorem met_succ {l : List Key} {i : Nat} {k : Key} (h : l[i]? = some k) : met l (i + 1) = if (met l i).any (· == k) then met l i else met l i ++ [k] := by
  unfold met
  rw [List.take_add_one, h]
  exact uniq_snoc _ _
theorem met_length (l : List Key) (i : Nat) : (met l i).length ≤ i := by
  refine Nat.le_trans (uniq_length _) ?_
  rw [List.length_take]
  exact Nat.min_le_left _ _
/-- the set at S holds those of the first i -/
abbrev MetAt (P : Program) (w : World) (h : Heap) (S : Addr) (l : List Key) (i : Nat) : Prop := h.SetOf (mixKind P w) S (fun k => (met l i).any (· == k)) (met l i).length
section
variable {P : Program} {w : World} {A : Around} {R : Result → Shared → Prop} {I : Addr} {fp wr : List Addr} {G : Array GenState → Array GenState → Prop} {n : Nat} {F : Nat → Value → Prop} {St : Nat → Shared → Prop} {l : List Key}
theorem MetAt.keep {h h' : Heap} {S : Addr} {i : Nat} (x : MetAt P w h S l i) (k : ∀ o, h.get? S = some o → h'.get? S = some o) : MetAt P w h' S l i := by
  obtain ⟨o, es, ep, t, ho, r⟩ := x
  exact ⟨o, es, ep, t, k o ho, r⟩
theorem MetAt.next {h : Heap} {S : Addr} {i : Nat} {k : Key} (hk : l[i]? = some k) (x : h.SetOf (mixKind P w) S (fun k' => (met l i).any (· == k') || decide (k' = k)) (if (met l i).any (· == k) then (met l i).length else (met l i).length + 1)) : MetAt P w h S l (i + 1) := by
  have e1 : (fun k' => (met l i).any (· == k') || decide (k' = k)) = fun k' => (met l (i + 1)).any (· == k') := by
    funext k'
    rw [met_succ hk]
    cases q : (met l i).any (· == k) with
    | true =>
      rw [if_pos rfl]
      by_cases e : k' = k
      · rw [e, q]
        rfl
      · rw [decide_eq_false e, Bool.or_false]
    | false =>
      rw [if_neg Bool.false_ne_true, List.any_append, List.any_cons, List.any_nil, Bool.or_false]
      congr 1
      by_cases e : k' = k
      · rw [decide_eq_true e, e]
        exact (beq_self_eq_true k).symm
      · rw [decide_eq_false e]
        exact (beq_eq_false_iff_ne.mpr (Ne.symm e)).symm
  have e2 : (if (met l i).any (· == k) then (met l i).length else (met l i).length + 1) = (met l (i + 1)).length := by
    rw [met_succ hk]
    split
    · rfl
    · rw [List.length_append, List.length_singleton]
  rw [e1, e2] at x
  exact x
/-- set.update over anything that is walked, its items keys -/
theorem loopKey (W : WalksS P w A.in1 I fp wr G n F St) (S : Addr) (hSf : S ∉ fp) (hn : n = l.length) (hval : ∀ i v, F i v → RelV (kV (kat l i)) v) (hb : n + 1 < scanBound) {s0 : Shared}
    (hR : ∀ s', Moved (S :: wr) G s0 s' → MetAt P w s'.heap S l n → R (.ok (.ret .none)) s') :
    ∀ (k i : Nat) (s : Shared), n - i = k → i ≤ n → Moved (S :: wr) G s0 s → St i s → MetAt P w s.heap S l i → codeAny (model P w) A (.builtin "set.update.loop" ⟨[.ref S, .ref I], []⟩) R s := by
  have hSw : S ∉ wr := fun h => hSf (W.sub _ h)
  have up : ∀ {s s' : Shared}, Moved wr G s s' → Moved (S :: wr) G s s' := fun m => m.mono fun b hb => List.mem_cons_of_mem _ hb
  intro k
  induction k with
  | zero =>
    intro i s hk hi hm0 hst hS
    obtain rfl : i = n := by omega
    refine codeAny_builtin PyProof.Rows.F.entry_set_update_loop ?_
    rw [Around.under_plainId PyProof.Rows.F.plain_set_update_loop _]
    show wpAny _ A.in1 (pyNext (.ref I) >>= _) _ _ s
    refine wpAny_bind (W.done s _ _ hst fun s' hm => ?_)
    show wpAny _ A.in1 (ret Value.none) _ _ s'
    exact wpAny_pure (hR s' (hm0.trans W.gtrans (up hm)) (hS.keep fun o e => hm.heap S o hSw e))
  | succ k ih =>
    intro i s hk hi hm0 hst hS
    have hlt : i < n := by omega
    refine codeAny_builtin PyProof.Rows.F.entry_set_update_loop ?_
    rw [Around.under_plainId PyProof.Rows.F.plain_set_update_loop _]
    show wpAny _ A.in1 (pyNext (.ref I) >>= _) _ _ s
    refine wpAny_bind (W.item i s _ _ hlt hst fun v s' hP hst' hm => ?_)
    have rv := hval i v hP
    have hki : l[i]? = some (kat l i) := by
      have e : l[i]? = some l[i] := List.getElem?_eq_getElem (by omega)
      rw [kat_some e]
      exact e
    have hS' : MetAt P w s'.heap S l i := hS.keep fun o e => hm.heap S o hSw e
    show wpAny _ A.in1 (holding [v] (setAdd S v) >>= _) _ _ s'
    refine wpAny_bind (wpAny_holding ?_)
    unfold setAdd
    refine wpAny_holding (wpAny_bind ((mixKind P w).pyHash (k := kat l i) (kV_is rv) ?_))
    refine wpAny_setAddHashed_of (knd := mixKind P w) (s := { s' with toks := s'.toks + 1 }) (kV_is rv) (key_scan rv) hS' (by have := met_length l i; omega) fun h' hsb hS2 => ?_
    refine wpAny_pure ⟨plainId_quiet PyProof.Rows.F.plain_set_update_loop _, ih (i + 1) _ (by omega) hlt (Moved.trans W.gtrans hm0 ((up hm).then_heap (Nat.le_succ _) fun b o hb e => ?_)) (W.frame _ s' _ _ hst' (Nat.le_succ _) fun b hb o e => ?_) (MetAt.next hki hS2)⟩
    · rw [hsb.2 b (fun h : b = S => hb (by rw [h]; exact List.mem_cons_self))]
      exact e
    · rw [hsb.2 b (fun h : b = S => hSf (by rw [← h]; exact hb))]
      exact e
end
section
variable {P : Program} {w : World} {A : Around} {E : Value → Shared → Prop} {s : Shared}
/-- what stood and the new set's object -/
structure SetMade (P : Program) (w : World) (s : Shared) (l : List Key) (s' : Shared) : Prop where
  st : Stays s s'
  set : MetAt P w s'.heap s.heap.objs.size l l.length
theorem call_setK {a : Addr} {its : Array Value} {l : List Key} {Q : Value → Shared → Prop} (hh : A.handled = none) (hl : s.heap.IsList a its) (rv : Vals (l.map kV) its.toList) (hb : l.length + 1 < scanBound)
    (h : ∀ s', SetMade P w s l s' → Q (.ref s.heap.objs.size) s') : wpAny (model P w) A (call (.type "set") [.ref a]) Q E s := by
  have hlen : its.size = l.length := by
    have z := rv.length
    rw [List.length_map, Array.length_toList] at z
    exact z.symm
  obtain ⟨c, tl, hmro⟩ := PySem.F.called_set.mro
  have hmade := PySem.F.called_set.made
  have hsub := PySem.F.called_set.sub
  refine wpAny_call (codeAny_of_tree ?_)
  show wpAny _ _ (callAny (.type "set") _) _ _ _
  refine wpAny_pure ⟨Code.quiet_builtin _ (by decide +kernel), codeAny_builtin PySem.F.entry_type_call ?_⟩
  rw [Around.under_plain (weight_type_call_type "set" [.ref a] []) rfl]
  have h1 := PySem.F.called_set.notType
  have h2 := PySem.F.called_set.canCreate
  have hct := PySem.F.typeCall_set_1 (.ref a)
  repeat (any_goals (first | assumption | wp_step))
  refine codeAny_mono (code_set_new_1 (.ref a) (E := E) (Q₁ := fun obj s₁ => ∃ led : Bool, obj = .ref s.heap.objs.size ∧ s₁ = { s with heap := s.heap.push { cls := .type "set", dict := none, data := .set #[] 0 (.fresh 0 0 led) } }) fun led => ⟨led, rfl, rfl⟩) fun r s₁ hr => ?_
  cases r with
  | error e => exact hr
  | ok fl =>
    cases fl with
    | ret obj =>
      obtain ⟨led, rfl, rfl⟩ := hr
      have hS : (s.heap.push { cls := .type "set", dict := none, data := .set #[] 0 (.fresh 0 0 led) }).get? s.heap.objs.size = some { cls := .type "set", dict := none, data := .set #[] 0 (.fresh 0 0 led) } := Heap.get?_push_size _ rfl
      have hT : Shared.TypeIs { s with heap := s.heap.push { cls := .type "set", dict := none, data := .set #[] 0 (.fresh 0 0 led) } } (.ref s.heap.objs.size) "set" := ⟨_, hS, rfl⟩
      have hli := PySem.F.called_set.init.lookup
      have hbi := PySem.F.called_set.init.bind (.ref s.heap.objs.size)
      repeat (any_goals (first | assumption | wp_step))
      refine codeAny_mono (codeAny_call_builtin (R := wants (fun r s₂ => r = .none ∧ SetMade P w s l s₂) E) PySem.F.called_set.init.plain PySem.F.entry_set_init (check_set_init_1 hT ?_)) fun r₂ s₂ hr₂ => ?_
      · obtain ⟨ol, hol, hcl, nl, hdl⟩ := hl
        obtain ⟨ocls, odict, odata, oslots⟩ := ol
        simp only at hcl hdl
        subst hcl; subst hdl
        have hol' : (s.heap.push { cls := .type "set", dict := none, data := .set #[] 0 (.fresh 0 0 led) }).get? a = some { cls := .type "list", dict := odict, data := .seq its nl, slots := oslots } := Heap.get?_push_of_some _ hol
        have hsls := PySem.F.sub_list_set
        have hslf := PySem.F.sub_list_frozenset
        have hne : (Value.type "list" == Value.type "dict") = false := by decide
        have hl1 : (s.heap.push { cls := .type "set", dict := none, data := .set #[] 0 (.fresh 0 0 led) }).IsList a its := ⟨_, hol', rfl, nl, rfl⟩
        unfold Builtin.«set.__init__» noKeywords Builtin.Frozenset.updateFrom
        generalize hPI : pyIter = PI
        wp_walk
        subst hPI
        refine wpAny_pyIter_list hl1 ?_
        refine wpAny_bind (wpAny_runValue ?_)
        have hlS : a < s.heap.objs.size := Heap.lt_size hol
        have hh3 : A.in1.in1.in1.handled = none := by simp [hh]
        have sz : (s.heap.push { cls := .type "set", dict := none, data := .set #[] 0 (.fresh 0 0 led) }).objs.size = s.heap.objs.size + 1 := Heap.size_push ..
        have hneI : a ≠ (s.heap.push { cls := .type "set", dict := none, data := .set #[] 0 (.fresh 0 0 led) }).objs.size := by
          rw [sz]
          exact Nat.ne_of_lt (Nat.lt_succ_of_lt hlS)
        have hSf : s.heap.objs.size ∉ [(s.heap.push { cls := .type "set", dict := none, data := .set #[] 0 (.fresh 0 0 led) }).objs.size, a] := fun z => by
          rcases List.mem_cons.mp z with z | z
          · rw [sz] at z
            exact Nat.ne_of_lt (Nat.lt_succ_self _) z
          · exact Nat.ne_of_gt hlS (List.mem_singleton.mp z)
        have hval : ∀ (i : Nat) (v : Value), its[i]? = some v → RelV (kV (kat l i)) v := fun i v hv => by
          rw [← Array.getElem?_toList] at hv
          have hil : i < l.length := by
            have z := (List.getElem?_eq_some_iff.mp hv).1
            rw [Array.length_toList, hlen] at z
            exact z
          obtain ⟨u, hu, r⟩ := rv.get (i := i) (x := kV l[i]) (by rw [List.getElem?_map, List.getElem?_eq_getElem hil]; rfl)
          rw [hv] at hu
          cases hu
          rw [kat_some (List.getElem?_eq_getElem hil)]
          exact r
        generalize hoI : ({ cls := .type "list_iterator", data := .fields #[.ref a, .int 0 0] } : Obj) = oI
        have st0 : ((s.heap.push { cls := .type "set", dict := none, data := .set #[] 0 (.fresh 0 0 led) }).push oI).IsListIter (s.heap.push { cls := .type "set", dict := none, data := .set #[] 0 (.fresh 0 0 led) }).objs.size a 0 ∧ ((s.heap.push { cls := .type "set", dict := none, data := .set #[] 0 (.fresh 0 0 led) }).push oI).IsList a its := ⟨⟨_, Heap.get?_push_size _ (by rw [← hoI]; rfl), by rw [← hoI], by rw [← hoI]; rfl⟩, hl1.push _⟩
        have set0 : MetAt P w ((s.heap.push { cls := .type "set", dict := none, data := .set #[] 0 (.fresh 0 0 led) }).push oI) s.heap.objs.size l 0 := by
          have hget : ((s.heap.push { cls := .type "set", dict := none, data := .set #[] 0 (.fresh 0 0 led) }).push oI).get? s.heap.objs.size = some { cls := .type "set", dict := none, data := .set #[] 0 (.fresh 0 0 led) } := Heap.get?_push_of_some _ hS
          exact PyProof.Rows.SetOf_congr ((PyProof.Rows.setObjOf_fresh (knd := mixKind P w) led).setOf hget (by unfold scanBound; omega)) (fun _ => rfl) rfl
        refine loopKey (l := l) ((Walks.list hh3 _ a hneI its).toS) s.heap.objs.size hSf hlen hval (by rw [hlen]; exact hb) (fun s' hm hS' => ?_) (its.size - 0) 0 _ (by omega) (Nat.zero_le _) (Moved.refl (fun _ => rfl)) st0 set0
        refine wpAny_pure ?_
        show wpAny _ _ (ret Value.none) _ _ _
        refine wpAny_pure ⟨rfl, ⟨hm.os, hm.gens, hm.drawn, fun b o e => hm.heap b o (fun z => ?_) (Heap.get?_push_of_some _ (Heap.get?_push_of_some _ e))⟩, by rw [hlen] at hS'; exact hS'⟩
        have hb0 := Heap.lt_size e
        rcases List.mem_cons.mp z with z | z
        · rw [z] at hb0
          exact Nat.lt_irrefl _ hb0
        · rw [List.mem_singleton.mp z, sz] at hb0
          exact Nat.lt_irrefl _ (Nat.lt_of_succ_lt hb0)
      · cases r₂ with
        | error e => exact hr₂
        | ok fl₂ =>
          cases fl₂ with
          | ret r =>
            obtain ⟨rfl, hM⟩ := hr₂
            repeat (any_goals (first | assumption | wp_step))
            exact h _ hM
          | _ => exact hr₂.elim
    | _ => exact hr.elim
end
end K13
set_option Elab.async false
set_option linter.all false
set_option maxRecDepth 100000
set_option maxHeartbeats 4000000
/-! len(set(xs)); aggregate. -/
namespace K13
open PySem PySem.Spec PyProof.Rows L2
open LamX (Tabs TabS ExtN TabB CodeO)
def tLenSetC (K : PySem.W.Frag) (ta : TE) : TE := fun σ H Q => ta σ H fun x H1 => ∃ (a : Addr) (l : List Key), x = .ref a ∧ SqL K H1 a (l.map kV) ∧ l.length ≤ 1000 ∧ Q (.int (uniq l).length) H1
theorem pe_lenSetC {X : Cx} {a : Expr} {ta : TE} {p p2 q pos : Pos} (hc : X.calm = true) (hg : Gl X "len") (hm : X.mg "len" = none) (hg2 : Gl X "set") (hm2 : X.mg "set" = none) (ha : PE X a ta)
    (na : starEach [a] X.env = (false, eval a X.env) :: starEach [] X.env := by rfl) : PE X (.Call (.Name "len" p) [.Call (.Name "set" p2) [a] [] q] [] pos) (tLenSetC X.K ta) := by
  refine ⟨fun pins s σ H Q I h => ?_⟩
  refine Call_ (ld_blt I hg hm boot_len ?_)
  refine PyProof.Rows.callWith_builtin1 (PyProof.Rows.args_cons ?_ rfl) rfl rfl
  refine Call_ (ld_blt I hg2 hm2 boot_set ?_)
  refine PyProof.Rows.callWith_type1 (PyProof.Rows.args_cons (thn (ha.run pins s σ H _ I h) fun v s1 ⟨x, H1, I1, r1, q1⟩ => PyProof.Rows.args_nil ?_) na) na rfl
  obtain ⟨b, l, rfl, hS, hl, q1⟩ := q1
  obtain rfl : v = Value.ref b := r1
  obtain ⟨its, rv, hp, hz⟩ := I1.list hS
  refine call_setK (l := l) (I1.ok.hd hc) hp.isList (by simpa using rv) (by unfold scanBound; omega) fun s' hM => ?_
  refine PyProof.Rows.args_nil ?_
  have J : Inv X pins σ H1 { s1 with heap := s'.heap, toks := s'.toks } := I1.kept hM.st.keep
  rw [← hM.st.eq] at J
  have hn : met l l.length = uniq l := by
    unfold met
    rw [List.take_length]
  have hset := hM.set
  unfold MetAt at hset
  rw [hn] at hset
  have hle := uniq_length l
  obtain ⟨o, es, ep, t, ho, hex, hd, _, _, _, hf, hn2⟩ := hset
  exact call_len_set ho hex hd hf (by rw [hn2]; omega) ⟨.int (uniq l).length, H1, J.tok _, ⟨_, by rw [hn2]⟩, q1⟩
section
variable {w : World} {K : PySem.W.Frag} {mg : Str → Option Value} {base : Heap} {f fO : Addr} {fd fdO : FuncData} {c Pm Po Pa : Addr}
def spAgg (K : PySem.W.Frag) (T : List (Addr × Str)) : Sp := fun vs H Q _ => ∃ (g : Fn9) (a : Addr) (given : List Cell), vs = [.str g.name, .ref a] ∧ SqL K H a (given.map cV) ∧ given.length ≤ 1000 ∧ (g.num = true → ∀ c ∈ given, cText c = false) ∧ Tabs T H ∧
  ∀ H' : Hp, ExtN H H' → Tabs T H' → Q (cV (valueOf g given)) H'
theorem scAgg : FnScope ["function", "values", "given", "value"] ["function", "values"] (defScope sAgg) := ⟨rfl, rfl, rfl, by decide +kernel, rfl, by decide +kernel, by decide +kernel⟩
theorem share {R C : Hp → Prop} {G : Prop} (go : (∀ H2, C H2 → R H2) → G) (rest : ∀ H2, C H2 → R H2) : G := go rest
theorem ok_agg {P : Program} (F : FnP K "aggregate" "aggregate" sAgg f fd) (hc : CodeIs K f fd c) {ga : Addr} (gA : mg "AGGREGATES" = some (.ref ga)) (tA : ∀ H, SqT K H ga nineV) (ni : mg "isinstance" = none) (ns : mg "str" = none) (nan : mg "any" = none) (nse : mg "set" = none) (len : mg "len" = none)
    (GO : FnOk P w K mg base CX0 2 fO fdO ["function", "given"] (spOfG K (tabT Pm Po Pa))) (gO : mg "of_given" = some (.ref fO)) (kO : PySem.W.keepIn K (.ref fO) = true) (bO : Binds K fdO ["function", "given"] [])
    (TB : TabB base mg c Pa) (nP : K.lookup Pa = none) (D : Tab3 Pm Po Pa) : FnOk P w K mg base CX0 3 f fd ["function", "values"] (spAgg K (tabT Pm Po Pa)) := by
  have hu : ∀ p ∈ tabT Pm Po Pa, p.1 = Pa → p.2 = qL "aggregate" "<genexpr>" := fun p hp e => by
    rcases List.mem_cons.mp hp with z | z
    · rw [z] at e
      exact absurd e D.ma
    · rcases List.mem_cons.mp z with z | z
      · rw [z] at e
        exact absurd e D.oa
      · rw [List.mem_singleton.mp z]
  have hmT : (Pa, qL "aggregate" "<genexpr>") ∈ tabT Pm Po Pa := List.mem_cons_of_mem _ (List.mem_cons_of_mem _ List.mem_cons_self)
  refine okC F hc scAgg (fun vs H Q E h => ?_) (fun A outer s H vs Q E hr h => ⟨_, PSs.nox (pss_cons (ps_if (pt_cmpR op_notIn_seq (pv 0) (pe_glob (v := .ref ga) rfl gA rfl) (by rfl)) pss_never pss_nil)
      (pss_cons (ps_if (PW.pt (pw_and (pt_cmpR op_in_seq (pv 0) (pe_tup (pa_cons pe_str (pa_cons pe_str pa_nil))) (by rfl)) (pw_and1 (pt_val
        (pe_anyC (T := tabT Pm Po Pa) (pb := cText) hr (by rfl) nan TB rfl nP hmT hu (by exact ⟨rfl, rfl, by decide +kernel, rfl, rfl, fun y hy e => absurd e ((by decide +kernel : ∀ y ∈ _, y.2 ≠ NameKind.free) y hy)⟩) (elt_isi ni ns (by rfl) (by rfl) (by rfl) (by rfl)) (fun _ => rfl) (pv 1)))))) pss_never pss_nil)
      (pss_cons (ps_if (pt_cmpR op_eq (pv 0) pe_str (nomark _)) (pss_one (ps_ret (pe_callB call_len_seq (by rfl) len PySem.boot_len (pa_cons (pv 1) pa_nil)))) pss_nil)
      (pss_cons (ps_if (pt_cmpR op_in_seq (pv 0) (pe_tup (pa_cons pe_str (pa_cons pe_str pa_nil))) (by rfl)) (pss_one (ps_ret (pe_ifExp (pt_cmpR op_eq (pe_callB call_len_seq (by rfl) len PySem.boot_len (pa_cons (pv 1) pa_nil)) pe_int (nomark _)) pe_non
        (pe_ix ix_list (pv 1) (pe_ifExp (pt_cmpR op_eq (pv 0) pe_str (nomark _)) pe_int (pe_un un_neg pe_int)) (fun _ _ => rfl))))) pss_nil)
      (pss_cons (ps_setLc (i := 2) (own := [("value", 3)]) (g := gName 3) rfl scAgg.nd rfl rfl (sw_true rfl rfl rfl (by decide +kernel)) (pi_list (pv 1)) (blkOk_by (N := ["function", "values", "given", "value"]) (sc := defScope sAgg) (by decide +kernel))
        (fun _ _ _ _ _ => pg_name (i := 3) scAgg.nd rfl (Or.inl rfl)) (fun _ _ _ _ _ => pts_one (pt_cmpR op_notN (pv 3) pe_non (nomark _))) (fun _ _ _ _ _ => pv 3))
      (pss_cons (ps_if (pt_cmpR op_eq (pv 0) pe_str (nomark _)) (pss_one (ps_ret (pe_callB call_len_seq (by rfl) len PySem.boot_len (pa_cons (pv 2) pa_nil)))) pss_nil)
      (pss_cons (ps_if (pt_cmpR op_eq (pv 0) pe_str (nomark _)) (pss_one (ps_ret (pe_lenSetC rfl (by rfl) len (by rfl) nse (pv 2)))) pss_nil)
      (pss_one (ps_ret (pe_ifExp (pt_cmpR op_eq (pe_callB call_len_seq (by rfl) len PySem.boot_len (pa_cons (pv 2) pa_nil)) pe_int (nomark _)) pe_non
        (pe_call GO hr (by rfl) gO kO bO .nil pass0 (pa_cons (pv 0) (pa_cons (pv 2) pa_nil))))))))))))), ?_⟩)
  · obtain ⟨g, a, given, rfl, _⟩ := h
    rfl
  · obtain ⟨g, a, given, rfl, hS, hl, hnum, hT, q⟩ := h
    have two : 2 ≤ sizeLine := by rw [sizeLine_eq]; decide
    refine ⟨_, rfl, ga, nineV, rfl, .inr (tA H), rfl, by decide, _, rfl, ?_⟩
    refine ifF (by rw [in_nine]; rfl) ?_
    refine ⟨_, rfl, two, fun p hp => ?_⟩
    have s1 := same_new (o := .tup [.str "sum", .str "median"]) hp
    refine ⟨p, _, rfl, .inr (SqT.of upd_same), rfl, by decide, _, rfl, ?_⟩
    apply share (C := fun H2 => ExtN H H2 ∧ Tabs (tabT Pm Po Pa) H2)
    · intro rest
      refine ite2 (fun c => ⟨_, rfl, a, given, rfl, Same.seq s1 hS, hT.ext s1, fun H2 e2 t2 => ⟨_, rfl, ifF ?_ (rest H2 ⟨(LamX.ExtN.of s1).trans e2, t2⟩)⟩⟩) (fun c => ifF rfl (rest _ ⟨LamX.ExtN.of s1, hT.ext s1⟩))
      have hn : g.num = true := (in_two g).symm.trans c
      rw [List.any_eq_false]
      intro x hx
      rw [hnum hn x hx]
      decide
    · rintro H2 ⟨e2, t2⟩
      have S2 := sqL_ext hS e2
      refine ⟨_, rfl, rfl, _, rfl, ?_⟩
      refine nameIf .size rfl (fun eg => ?_) (fun eg => ?_)
      · subst eg
        refine ⟨_, rfl, a, _, rfl, .inl S2, ?_⟩
        rw [List.length_map]
        exact q _ e2 t2
      refine ⟨_, rfl, two, fun p2 hp2 => ?_⟩
      have s3 := same_new (o := .tup [.str "first", .str "last"]) hp2
      refine ⟨p2, _, rfl, .inr (SqT.of upd_same), rfl, by decide, _, rfl, ?_⟩
      have S3 : SqL K (upd H2 p2 (.tup [.str "first", .str "last"])) a (given.map cV) := Same.seq s3 S2
      have E3 := e2.trans (LamX.ExtN.of s3)
      have T3 := t2.ext s3
      generalize upd H2 p2 (.tup [.str "first", .str "last"]) = H3 at S3 E3 T3
      have z0 : ∀ n : Nat, decide (V.int (n : Nat) = V.int 0) = decide (n = 0) := fun n => by
        by_cases c : n = 0
        · rw [c]
          rfl
        · rw [decide_eq_false c]
          exact decide_eq_false fun z => c (by injection z with z; omega)
      refine ite2 (fun c => ?_) (fun c => ?_)
      · have hg : g.fl = true := (in_ends g).symm.trans c
        have q := q H3 E3 T3
        refine ⟨_, rfl, a, _, rfl, .inl S3, rfl, _, rfl, ?_⟩
        rw [List.length_map, z0]
        by_cases c0 : given.length = 0
        · refine ifT (decide_eq_true c0) ?_
          have z : cV (valueOf g given) = .non := by
            obtain rfl := List.eq_nil_of_length_eq_zero c0
            cases g <;> first | rfl | exact absurd hg (by decide)
          rw [z] at q
          exact q
        · refine ifF (decide_eq_false c0) ?_
          refine ⟨_, rfl, _, rfl, rfl, _, rfl, ?_⟩
          refine nameIf .first rfl (fun eg2 => ?_) (fun eg2 => ?_)
          · subst eg2
            refine ⟨a, _, (0 : Nat), cV (valueOf .first given), rfl, rfl, S3, atI_nat ?_, q⟩
            show (given.map cV)[0]? = some (cV ((given[0]?).getD none))
            rw [List.getElem?_map, List.getElem?_eq_getElem (show 0 < given.length by omega)]
            rfl
          · have eg3 : g = .last := by cases g <;> first | rfl | exact absurd rfl eg2 | exact absurd hg (by decide)
            subst eg3
            refine ⟨_, rfl, a, _, _, cV (valueOf .last given), rfl, rfl, S3, atI_end ?_, q⟩
            show (given.map cV)[(given.map cV).length - 1]? = some (cV ((given[given.length - 1]?).getD none))
            rw [List.length_map, List.getElem?_map, List.getElem?_eq_getElem (show given.length - 1 < given.length by omega)]
            rfl
      · have hg : g.fl = false := (in_ends g).symm.trans (by simpa using c)
        refine ⟨_, rfl, a, rfl, ⟨_, S3⟩, fun D hD => ?_⟩
        have s4 : ∀ o, Same H3 (upd H3 D o) := fun o => same_new hD
        refine lc_list (xs := given.map cV) (fun i H' => H' = upd H3 D (.lst ((known (given.take i)).map kV))) rfl (fun i H' _ e => by rw [e]; exact Same.seq (s4 _) S3) ?_ ?_
        · rintro i x H' hx rfl
          rw [List.getElem?_map] at hx
          cases hc : given[i]? with
          | none =>
            rw [hc] at hx
            cases hx
          | some c =>
            rw [hc] at hx
            cases hx
            have et : given.take (i + 1) = given.take i ++ [c] := by
              rw [List.take_add_one, hc]
              rfl
            refine ⟨rfl, _, rfl, rfl, _, rfl, ?_⟩
            rw [cell_non]
            cases c with
            | none =>
              refine ifF rfl ?_
              rw [et, known_snoc]
              simp
            | some k =>
              refine ifT rfl ?_
              refine ⟨_, rfl, _, upd_same, ?_, ?_⟩
              · rw [List.length_map]
                have h1 := known_length (given.take i)
                rw [List.length_take] at h1
                have h2 : (1000 : Nat) < sizeLine := by rw [sizeLine_eq]; decide
                omega
              · rw [upd_upd, et, known_snoc, List.map_append]
                rfl
        · rintro H' rfl
          rw [List.length_map, List.take_length]
          have S4 : SqL K (upd H3 D (.lst ((known given).map kV))) D ((known given).map kV) := SqL.of upd_same
          have E4 := E3.trans (LamX.ExtN.of (s4 (.lst ((known given).map kV))))
          have T4 := T3.ext (s4 (.lst ((known given).map kV)))
          generalize upd H3 D (.lst ((known given).map kV)) = H4 at S4 E4 T4
          have q1 := q H4 E4 T4
          refine ⟨_, rfl, rfl, _, rfl, ?_⟩
          refine nameIf .count rfl (fun eg2 => ?_) (fun eg2 => ?_)
          · subst eg2
            refine ⟨_, rfl, D, _, rfl, .inl S4, ?_⟩
            rw [List.length_map]
            exact q1
          refine ⟨_, rfl, rfl, _, rfl, ?_⟩
          have kl := known_length given
          refine nameIf .different rfl (fun eg3 => ?_) (fun eg3 => ?_)
          · subst eg3
            exact ⟨_, rfl, D, known given, rfl, S4, by omega, q1⟩
          have hog : g.og = true := by cases g <;> first | rfl | exact absurd rfl eg | exact absurd rfl eg2 | exact absurd rfl eg3 | exact absurd hg (by decide)
          refine ⟨_, rfl, D, _, rfl, .inl S4, rfl, _, rfl, ?_⟩
          rw [List.length_map, z0]
          by_cases c0 : (known given).length = 0
          · refine ifT (decide_eq_true c0) ?_
            have z : cV (valueOf g given) = .non := by
              have e : known given = [] := List.eq_nil_of_length_eq_zero c0
              cases g <;> first | (simp [valueOf, e, srt_nil, cV]; done) | exact absurd hog (by decide)
            rw [z] at q1
            exact q1
          · refine ifF (decide_eq_false c0) ?_
            refine ⟨_, rfl, _, rfl, g, D, known given, rfl, hog, S4, fun e => c0 (by rw [e]; rfl), by omega, fun eg4 k hk => ?_, T4, fun c H' hc e5 t5 => ?_⟩
            · obtain ⟨c, hc, e⟩ := List.mem_filterMap.mp hk
              have hz := hnum (by rw [eg4]; rfl) c hc
              cases c with
              | none => cases e
              | some k2 =>
                cases e
                cases k with
                | inl i => exact ⟨i, rfl⟩
                | inr y => cases hz
            · rw [← hc given rfl]
              exact q H' (E4.trans e5) t5
end
end K13
set_option Elab.async false
set_option linter.all false
set_option maxRecDepth 100000
set_option maxHeartbeats 4000000
/-! _law_of_values. -/
namespace K13
open PySem PySem.Spec PyProof.Rows L2
theorem val_ends (g : Fn9) (x y : V) : valV (mergeK [] [((Sum.inr "first" : Key), x), (Sum.inr "last", y)]) (Sum.inr g.name) = match g with | .first => some x | .last => some y | _ => none := by
  cases g <;> first | rfl | kernel_rfl
theorem val_mids (g : Fn9) (x y z : V) : valV (mergeK [] [((Sum.inr "least" : Key), x), (Sum.inr "greatest", y), (Sum.inr "median", z)]) (Sum.inr g.name) = match g with | .least => some x | .greatest => some y | .median => some z | _ => none := by
  cases g <;> first | rfl | kernel_rfl
theorem in_ends3 (f : Fn9) : inV (.str f.name) [.str "first", .str "last", .str "nth"] = f.fl := by
  cases f <;> decide +kernel
section
variable {P : Program} {w : World} {K : PySem.W.Frag} {mg : Str → Option Value} {base : Heap} {f fR : Addr} {fd fdR : FuncData}
/-- sorted(xs, key=_law_rank) -/
def rSortR (K : PySem.W.Frag) (fR : Addr) : List V → List V → Hp → VK → Prop := fun vs zs H Q => ∃ (a : Addr) (l : List Key), vs = [V.ref a] ∧ zs = [V.ref fR] ∧ SqL K H a (l.map kV) ∧ ∀ p, H p = none → Q (.ref p) (upd H p (.lst ((srt l).map kV)))
theorem cr_sortR {X : Cx} {n : Nat} (hr : Room n X.A) (F : FnP X.K "_law_rank" "_law_rank" sRank fR fdR) (bR : Binds X.K fdR ["_law_value"] []) (ni : X.mg "isinstance" = none) (ns : X.mg "str" = none) : CallRK X (.builtin "sorted") [Str.ofString "key"] (rSortR X.K fR) := by
  intro pins s σ H xs zs us ws Q I r rz h
  obtain ⟨a, l, rfl, rfl, hs, q⟩ := h
  obtain rfl := Vals.ref1 r
  obtain rfl := Vals.ref1 rz
  exact sortK_run hr I hs (fun A s' k u R hd up ru hk => by
    have M : L2.Mod X.K X.mg s'.heap := mod_up (mod_up I.ok.mod I.bk) up
    exact rank_raw F M ni ns (bR _ [u] M.kin rfl) ru (by omega) hk) q
def spVal (K : PySem.W.Frag) : Sp := fun vs H Q _ => ∃ (g : Fn9) (a : Addr) (given : List Cell), vs = [.str g.name, .non, .ref a] ∧ SqL K H a (given.map cV) ∧ given.length ≤ 1000 ∧ (g.num = true → ∀ c ∈ given, cText c = false) ∧ ∀ H' : Hp, Same H H' → Q (cV (valueOf g given)) H'
theorem scVal : FnScope ["_law_function", "_law_number", "_law_given", "_law_known", "_law_at", "_law_value"] ["_law_function", "_law_number", "_law_given"] (defScope sVal) := ⟨rfl, rfl, rfl, by decide +kernel, rfl, by decide +kernel, by decide +kernel⟩
theorem ok_val (F : FnP K "_law_of_values" "_law_of_values" sVal f fd) (FR : FnP K "_law_rank" "_law_rank" sRank fR fdR) (bR : Binds K fdR ["_law_value"] []) (gR : mg "_law_rank" = some (.ref fR)) (ni : mg "isinstance" = none) (ns : mg "str" = none) (nso : mg "sorted" = none) (nse : mg "set" = none) (nsu : mg "sum" = none) (len : mg "len" = none) :
    FnOk P w K mg base CX0 1 f fd ["_law_function", "_law_number", "_law_given"] (spVal K) := by
  refine F.ok scVal (fun vs H Q E h => ?_) (fun cdv A outer s H vs Q E hr h => ⟨_, PSs.nox (pss_cons (ps_set (i := 3) scVal.nd rfl (Or.inl rfl)
        (pe_callBK (cr_sortR hr FR bR ni ns) (by rfl) nso (by decide +kernel)
          (pa_cons (pe_lc (own := [("_law_value", 5)]) (g := gName 5) rfl scVal.nd (pi_list (pv 2)) (blkOk_by (N := ["_law_function", "_law_number", "_law_given", "_law_known", "_law_at", "_law_value"]) (sc := defScope sVal) (by decide +kernel))
            (fun _ _ _ _ _ => pg_name (i := 5) scVal.nd rfl (Or.inl rfl)) (fun _ _ _ _ _ => pts_one (pt_cmpR op_notN (pv 5) pe_non (nomark _))) (fun _ _ _ _ _ => pv 5)) pa_nil)
          (pk_cons (pe_glob (v := .ref fR) rfl gR rfl) pk_nil)))
      (pss_cons (ps_if (pt_cmpR op_in_seq (pv 0) (pe_tup (pa_cons pe_str (pa_cons pe_str (pa_cons pe_str pa_nil)))) (by rfl))
        (pss_cons (ps_set (i := 4) scVal.nd rfl (Or.inl rfl) (pe_dget2 (hu_of hr) (pe_disp (pps_cons pe_str pe_int (pps_cons pe_str (pe_op op_sub (pe_callB call_len_seq (by rfl) len PySem.boot_len (pa_cons (pv 2) pa_nil)) pe_int) pps_nil)) (by rfl) (by rfl) (fun z => by cases z) (by decide))
            (pv 0) (pe_op op_sub (pe_orT (pv 1) (pe_one pe_int)) pe_int) ⟨rfl, rfl, rfl, rfl⟩))
        (pss_cons (ps_if (pt_chain op_le op_lt pe_int (pv 4) (pe_callB call_len_seq (by rfl) len PySem.boot_len (pa_cons (pv 2) pa_nil))) (pss_one (ps_ret (pe_ix ix_list (pv 2) (pv 4) (fun _ _ => rfl)))) pss_nil)
        (pss_one (ps_ret pe_non)))) pss_nil)
      (pss_cons (ps_if (pt_cmpR op_eq (pv 0) pe_str (nomark _)) (pss_one (ps_ret (pe_callB call_len_seq (by rfl) len PySem.boot_len (pa_cons (pv 2) pa_nil)))) pss_nil)
      (pss_cons (ps_if (pt_cmpR op_eq (pv 0) pe_str (nomark _)) (pss_one (ps_ret (pe_callB call_len_seq (by rfl) len PySem.boot_len (pa_cons (pv 3) pa_nil)))) pss_nil)
      (pss_cons (ps_if (pt_cmpR op_eq (pv 0) pe_str (nomark _)) (pss_one (ps_ret (pe_lenSetC rfl (by rfl) len (by rfl) nse (pv 3)))) pss_nil)
      (pss_cons (ps_if (pt_cmpR op_eq (pe_callB call_len_seq (by rfl) len PySem.boot_len (pa_cons (pv 3) pa_nil)) pe_int (nomark _)) (pss_one (ps_ret pe_non)) pss_nil)
      (pss_cons (ps_if (pt_cmpR op_eq (pv 0) pe_str (nomark _)) (pss_one (ps_ret (pe_callB (cr_sum rfl) (by rfl) nsu (by decide +kernel) (pa_cons (pv 3) pa_nil)))) pss_nil)
      (pss_one (ps_ret (pe_ix ix_list (pv 3) (pe_dget (hu_of hr) (pe_disp (pps_cons pe_str pe_int (pps_cons pe_str (pe_op op_sub (pe_callB call_len_seq (by rfl) len PySem.boot_len (pa_cons (pv 3) pa_nil)) pe_int)
        (pps_cons pe_str (pe_op op_fdiv (pe_op op_sub (pe_callB call_len_seq (by rfl) len PySem.boot_len (pa_cons (pv 3) pa_nil)) pe_int) pe_int) pps_nil))) (by rfl) (by rfl) (fun z => by cases z) (by decide)) (pv 0) (fun _ _ => rfl)) (fun _ _ => rfl))))))))))), ?_⟩)
  · obtain ⟨g, a, given, rfl, _⟩ := h
    rfl
  · obtain ⟨g, a, given, rfl, hS, hl, hnum, q⟩ := h
    have kl := known_length given
    have hsz : (1000 : Nat) < sizeLine := by rw [sizeLine_eq]; decide
    refine ⟨_, rfl, a, rfl, ⟨_, hS⟩, fun D hD => ?_⟩
    have s1 : ∀ o, Same H (upd H D o) := fun o => same_new hD
    refine lc_list (xs := given.map cV) (fun i H' => H' = upd H D (.lst ((known (given.take i)).map kV))) rfl (fun i H' _ e => by rw [e]; exact Same.seq (s1 _) hS) ?_ ?_
    · rintro i x H' hx rfl
      rw [List.getElem?_map] at hx
      cases hc : given[i]? with
      | none =>
        rw [hc] at hx
        cases hx
      | some c =>
        rw [hc] at hx
        cases hx
        have et : given.take (i + 1) = given.take i ++ [c] := by
          rw [List.take_add_one, hc]
          rfl
        refine ⟨rfl, _, rfl, rfl, _, rfl, ?_⟩
        rw [cell_non]
        cases c with
        | none =>
          refine ifF rfl ?_
          rw [et, known_snoc]
          simp
        | some k =>
          refine ifT rfl ?_
          refine ⟨_, rfl, _, upd_same, ?_, ?_⟩
          · rw [List.length_map]
            have h1 := known_length (given.take i)
            rw [List.length_take] at h1
            omega
          · rw [upd_upd, et, known_snoc, List.map_append]
            rfl
    · rintro H' rfl
      rw [List.length_map, List.take_length]
      have S1 : SqL K (upd H D (.lst ((known given).map kV))) D ((known given).map kV) := SqL.of upd_same
      have E1 := s1 (.lst ((known given).map kV))
      generalize upd H D (.lst ((known given).map kV)) = H1 at S1 E1
      refine ⟨D, known given, rfl, rfl, S1, fun p hp => ?_⟩
      have E2 : Same H (upd H1 p (.lst ((srt (known given)).map kV))) := E1.trans (same_new hp)
      have S2 : SqL K (upd H1 p (.lst ((srt (known given)).map kV))) p ((srt (known given)).map kV) := SqL.of upd_same
      have G2 : SqL K (upd H1 p (.lst ((srt (known given)).map kV))) a (given.map cV) := Same.seq E2 hS
      generalize upd H1 p (.lst ((srt (known given)).map kV)) = H2 at S2 E2 G2
      refine ⟨_, rfl, (by show 3 ≤ sizeLine; rw [sizeLine_eq]; decide), fun p3 hp3 => ?_⟩
      have s3 := same_new (o := .tup [.str "first", .str "last", .str "nth"]) hp3
      have E3 := E2.trans s3
      have S3 := Same.seq s3 S2
      have G3 := Same.seq s3 G2
      refine ⟨p3, _, rfl, .inr (SqT.of upd_same), rfl, by decide, _, rfl, ?_⟩
      generalize upd H2 p3 (.tup [.str "first", .str "last", .str "nth"]) = H3 at S3 E3 G3
      refine ite2 (fun c => ?_) (fun c => ?_)
      · have hg : g.fl = true := (in_ends3 g).symm.trans c
        intro d hd
        have s4 := same_new (o := .dK []) hd
        have G4 := Same.seq s4 G3
        refine ⟨_, rfl, a, _, rfl, .inl G4, _, _, rfl, rfl, ?_⟩
        refine ⟨upd_same, [((Sum.inr "first" : Key), V.int 0), (Sum.inr "last", _)], rfl, (by show (2 : Nat) ≤ 15; decide), ?_⟩
        rw [List.length_map]
        have E5 : Same H (upd (upd H3 d (.dK [])) d (.dK (mergeK [] [((Sum.inr "first" : Key), V.int 0), (Sum.inr "last", V.int ((given.length : Nat) - 1))]))) := by
          rw [upd_upd]
          exact E3.trans (same_new hd)
        have G5 := Same.seq E5 hS
        have d5 : (upd (upd H3 d (.dK [])) d (.dK (mergeK [] [((Sum.inr "first" : Key), V.int 0), (Sum.inr "last", V.int ((given.length : Nat) - 1))]))) d = some (.dK (mergeK [] [((Sum.inr "first" : Key), V.int 0), (Sum.inr "last", V.int ((given.length : Nat) - 1))])) := upd_same
        refine ⟨d, rfl, .inl ⟨_, .inl d5⟩, _, rfl, _, rfl, false, rfl, ifF rfl ?_⟩
        refine ⟨_, _, rfl, rfl, _, DGet.k (k := Sum.inr g.name) d5, ?_⟩
        rw [val_ends]
        generalize upd (upd H3 d (.dK [])) d (.dK (mergeK [] [((Sum.inr "first" : Key), V.int 0), (Sum.inr "last", V.int ((given.length : Nat) - 1))])) = H5 at E5 G5
        have q5 := q H5 E5
        have no : given.length = 0 → cV (valueOf g given) = .non := fun c0 => by
          obtain rfl := List.eq_nil_of_length_eq_zero c0
          cases g <;> first | rfl | exact absurd hg (by decide)
        have at_ : ∀ i : Nat, i < given.length → (given[i]?).getD none = valueOf g given → atI (given.map cV) (i : Int) = some (cV (valueOf g given)) := fun i hi e => by
          refine atI_nat ?_
          rw [← e, List.getElem?_map, List.getElem?_eq_getElem hi]
          rfl
        cases g with
        | first =>
          refine ⟨_, rfl, _, _, rfl, rfl, _, rfl, ifT rfl ⟨_, rfl, a, _, rfl, .inl G5, _, _, rfl, rfl, _, rfl, ?_⟩⟩
          rw [List.length_map]
          by_cases c0 : given.length = 0
          · refine ifF (decide_eq_false (by omega)) ?_
            rw [no c0] at q5
            exact q5
          · refine ifT (decide_eq_true (by omega)) ?_
            exact ⟨_, rfl, _, rfl, a, _, ((0 : Nat) : Int), _, rfl, rfl, G5, at_ 0 (by omega) rfl, q5⟩
        | last =>
          refine ⟨_, rfl, _, _, rfl, rfl, _, rfl, ?_⟩
          by_cases c0 : given.length = 0
          · refine ifF (decide_eq_false (by omega)) ⟨_, rfl, ifF rfl ?_⟩
            rw [no c0] at q5
            exact q5
          · refine ifT (decide_eq_true (by omega)) ⟨_, rfl, a, _, rfl, .inl G5, _, _, rfl, rfl, _, rfl, ?_⟩
            rw [List.length_map]
            refine ifT (decide_eq_true (by omega)) ?_
            have e9 : ((given.length : Nat) : Int) - 1 = ((given.length - 1 : Nat) : Int) := by omega
            have q9 := at_ (given.length - 1) (by omega) rfl
            rw [← e9] at q9
            exact ⟨_, rfl, _, rfl, a, _, _, _, rfl, rfl, G5, q9, q5⟩
        | _ => exact absurd hg (by decide)
      · have hg : g.fl = false := (in_ends3 g).symm.trans (by simpa using c)
        have q3 := q H3 E3
        have z0 : ∀ n : Nat, decide (V.int (n : Nat) = V.int 0) = decide (n = 0) := fun n => by
          by_cases c : n = 0
          · rw [c]
            rfl
          · rw [decide_eq_false c]
            exact decide_eq_false fun z => c (by injection z with z; omega)
        refine ⟨_, rfl, rfl, _, rfl, ?_⟩
        refine nameIf .size rfl (fun eg => ?_) (fun eg => ?_)
        · subst eg
          refine ⟨_, rfl, a, _, rfl, .inl G3, ?_⟩
          rw [List.length_map]
          exact q3
        refine ⟨_, rfl, rfl, _, rfl, ?_⟩
        refine nameIf .count rfl (fun eg2 => ?_) (fun eg2 => ?_)
        · subst eg2
          refine ⟨_, rfl, p, _, rfl, .inl S3, ?_⟩
          rw [List.length_map, srt_length]
          exact q3
        refine ⟨_, rfl, rfl, _, rfl, ?_⟩
        refine nameIf .different rfl (fun eg3 => ?_) (fun eg3 => ?_)
        · subst eg3
          refine ⟨_, rfl, p, srt (known given), rfl, S3, by rw [srt_length]; omega, ?_⟩
          rw [uniq_perm (srt_perm (known given))]
          exact q3
        refine ⟨_, rfl, p, _, rfl, .inl S3, rfl, _, rfl, ?_⟩
        rw [List.length_map, srt_length, z0]
        have hog : g.og = true := by cases g <;> first | rfl | exact absurd rfl eg | exact absurd rfl eg2 | exact absurd rfl eg3 | exact absurd hg (by decide)
        by_cases c0 : (known given).length = 0
        · refine ifT (decide_eq_true c0) ?_
          have z : cV (valueOf g given) = .non := by
            have e : known given = [] := List.eq_nil_of_length_eq_zero c0
            cases g <;> first | (simp [valueOf, e, srt_nil, cV]; done) | exact absurd hog (by decide)
          rw [z] at q3
          exact q3
        refine ifF (decide_eq_false c0) ?_
        have hne : known given ≠ [] := fun e => c0 (by rw [e]; rfl)
        refine ⟨_, rfl, rfl, _, rfl, ?_⟩
        refine nameIf .sum rfl (fun eg4 => ?_) (fun eg4 => ?_)
        · subst eg4
          have el : (srt (known given)).map kV = ((srt (known given)).map knum).map V.int := by
            rw [List.map_map]
            refine List.map_congr_left fun k hk => ?_
            have hk := (srt_perm (known given)).mem_iff.mp hk
            obtain ⟨c, hc, e⟩ := List.mem_filterMap.mp hk
            have hz := hnum rfl c hc
            cases c with
            | none => cases e
            | some k2 =>
              cases e
              cases k with
              | inl i => rfl
              | inr y => cases hz
          rw [el] at S3
          refine ⟨_, rfl, p, _, rfl, S3, ?_⟩
          have z : valueOf .sum given = some (Sum.inl (ksum (known given))) := by
            show (if known given = [] then none else some (Sum.inl (ksum (known given)))) = _
            rw [if_neg hne]
          rw [z] at q3
          have e9 : ((srt (known given)).map knum).sum = ksum (known given) := ksum_perm (srt_perm (known given))
          rw [e9]
          exact q3
        refine ⟨_, rfl, fun d hd => ?_⟩
        have s4 := same_new (o := .dK []) hd
        have S4 := Same.seq s4 S3
        refine ⟨_, rfl, p, _, rfl, .inl S4, _, _, rfl, rfl, ?_⟩
        refine ⟨_, rfl, p, _, rfl, .inl S4, _, _, rfl, rfl, _, _, rfl, rfl, ⟨by decide, by decide⟩, ?_⟩
        refine ⟨upd_same, [((Sum.inr "least" : Key), V.int 0), (Sum.inr "greatest", _), (Sum.inr "median", _)], rfl, (by show (3 : Nat) ≤ 15; decide), ?_⟩
        rw [List.length_map, srt_length]
        generalize hkv : mergeK [] [((Sum.inr "least" : Key), V.int 0), (Sum.inr "greatest", V.int (((known given).length : Nat) - 1)), (Sum.inr "median", V.int ((((known given).length : Nat) - 1) / 2))] = kvs
        have E5 : Same H3 (upd (upd H3 d (.dK [])) d (.dK kvs)) := by
          rw [upd_upd]
          exact same_new hd
        have d5 : (upd (upd H3 d (.dK [])) d (.dK kvs)) d = some (.dK kvs) := upd_same
        have S5 := Same.seq E5 S3
        have q5 := q _ (E3.trans E5)
        have at_ : ∀ i : Nat, i < (known given).length → (srt (known given))[i]? = valueOf g given → atI ((srt (known given)).map kV) (i : Int) = some (cV (valueOf g given)) := fun i hi e => by
          refine atI_nat ?_
          rw [← e, List.getElem?_map, List.getElem?_eq_getElem (by rw [srt_length]; exact hi)]
          rfl
        have e8 : (((known given).length : Nat) : Int) - 1 = (((known given).length - 1 : Nat) : Int) := by omega
        have e9 : ((((known given).length : Nat) : Int) - 1) / 2 = ((((known given).length - 1) / 2 : Nat) : Int) := by omega
        have vm := val_mids g (V.int 0) (V.int (((known given).length : Nat) - 1)) (V.int ((((known given).length : Nat) - 1) / 2))
        rw [hkv] at vm
        cases g with
        | least => exact ⟨_, rfl, d, V.int 0, rfl, .inl ⟨kvs, Sum.inr "least", .inl d5, rfl, vm.symm⟩, p, _, ((0 : Nat) : Int), _, rfl, rfl, S5, at_ 0 (by omega) rfl, q5⟩
        | greatest =>
          have q9 := at_ ((known given).length - 1) (by omega) rfl
          rw [← e8] at q9
          exact ⟨_, rfl, d, _, rfl, .inl ⟨kvs, Sum.inr "greatest", .inl d5, rfl, vm.symm⟩, p, _, _, _, rfl, rfl, S5, q9, q5⟩
        | median =>
          have q9 := at_ (((known given).length - 1) / 2) (by omega) rfl
          rw [← e9] at q9
          exact ⟨_, rfl, d, _, rfl, .inl ⟨kvs, Sum.inr "median", .inl d5, rfl, vm.symm⟩, p, _, _, _, rfl, rfl, S5, q9, q5⟩
        | sum => exact absurd rfl eg4
        | _ => exact absurd hog (by decide)
end
end K13
set_option Elab.async false
set_option linter.all false
set_option maxRecDepth 100000
set_option maxHeartbeats 8000000
/-! law: what its turns keep. -/
namespace K13
open PySem PySem.Spec PyProof.Rows L2
open LamX (Tabs TabS ExtN TabB CodeO)
/-! ### repr of what is told -/
theorem repr_small {i : Int} (h : i.natAbs < 2 ^ 200) : ReprOk (.int i) := by
  show i.natAbs.log2 < 1920
  by_cases h0 : i.natAbs = 0
  · rw [h0]
    decide
  · refine (Nat.log2_lt h0).mpr (Nat.lt_trans h ?_)
    exact Nat.pow_lt_pow_right (by decide) (by decide)
theorem repr_cell {t : Bool} {c : Cell} (h : CellOk t c) : ReprOk (cV c) := by
  cases c with
  | none => trivial
  | some k =>
    cases k with
    | inl i =>
      obtain ⟨h1, h2⟩ := h
      refine repr_small (Nat.lt_of_lt_of_le (m := 2 ^ 60) ?_ (Nat.pow_le_pow_right (by decide) (by decide)))
      have : (2 : Nat) ^ 60 = 1152921504606846976 := by decide
      omega
    | inr x =>
      show (reprText x).length ≤ sizeLine
      have := h.2
      rw [sizeLine_eq]
      omega
theorem ksum_bound : ∀ {l : List Key} {B : Nat}, (∀ k ∈ l, (knum k).natAbs ≤ B) → (ksum l).natAbs ≤ B * l.length
  | [], B, _ => by
    show (0 : Int).natAbs ≤ _
    simp
  | k :: l, B, h => by
    rw [ksum_cons, List.length_cons, Nat.mul_add_one]
    have h1 := h k List.mem_cons_self
    have h2 := ksum_bound fun k hk => h k (List.mem_cons_of_mem _ hk)
    omega
theorem repr_value {t : Bool} {given : List Cell} (g : Fn9) (hl : given.length ≤ 14) (h : ∀ c ∈ given, CellOk t c) : ReprOk (cV (valueOf g given)) := by
  have kl := known_length given
  have nat : ∀ n : Nat, n ≤ 14 → ReprOk (cV (some (Sum.inl ((n : Nat) : Int)))) := fun n hn => by
    refine repr_cell (t := t) (c := some (Sum.inl ((n : Nat) : Int))) ⟨by omega, by omega⟩
  have inK : ∀ k ∈ known given, ReprOk (cV (some k)) := fun k hk => by
    obtain ⟨c, hc, e⟩ := List.mem_filterMap.mp hk
    have e : c = some k := e
    rw [← e]
    exact repr_cell (h c hc)
  have inS : ∀ i : Nat, ReprOk (cV ((srt (known given))[i]?)) := fun i => by
    cases e : (srt (known given))[i]? with
    | none => trivial
    | some k => exact inK k ((srt_perm (known given)).mem_iff.mp (List.mem_of_getElem? e))
  have inG : ∀ i : Nat, ReprOk (cV ((given[i]?).getD none)) := fun i => by
    cases e : given[i]? with
    | none => trivial
    | some c => exact repr_cell (h c (List.mem_of_getElem? e))
  cases g with
  | size => exact nat _ hl
  | count => exact nat _ (by omega)
  | different => exact nat _ (by have := uniq_length (known given); omega)
  | sum =>
    show ReprOk (cV (if known given = [] then none else some (Sum.inl (ksum (known given)))))
    split
    · trivial
    · refine repr_small ?_
      have b : (ksum (known given)).natAbs ≤ 2000000000000 * (known given).length := ksum_bound fun k hk => by
        obtain ⟨c, hc, e⟩ := List.mem_filterMap.mp hk
        have e : c = some k := e
        have z := h c hc
        rw [e] at z
        cases k with
        | inl i =>
          obtain ⟨h1, h2⟩ := z
          show i.natAbs ≤ _
          omega
        | inr x => exact Nat.zero_le _
      have e60 : (2 : Nat) ^ 60 = 1152921504606846976 := by decide
      refine Nat.lt_of_lt_of_le (m := 2 ^ 60) ?_ (Nat.pow_le_pow_right (by decide) (by decide))
      omega
  | least => exact inS 0
  | greatest => exact inS _
  | median => exact inS _
  | first => exact inG 0
  | last => exact inG _
/-! ### what stands in a turn -/
theorem tabs_fix {T : List (Addr × Str)} {H H' : Hp} {S : List Addr} (h : Tabs T H) (k : Fix S H H') (n : ∀ y ∈ S, ∀ o, H y = some o → (∀ ps, o ≠ .tbl ps) ∧ ∀ c q, o ≠ CodeO c q) : Tabs T H' := fun p hp => by
  obtain ⟨ps, h1, h2, h3⟩ := h p hp
  refine ⟨ps, k _ _ (fun z => (n _ z _ h1).1 ps rfl) h1, h2, fun pos cv hc => ?_⟩
  obtain ⟨c, e1, e2⟩ := h3 pos cv hc
  exact ⟨c, e1, k _ _ (fun z => (n _ z _ e2).2 _ _ rfl) e2⟩
structure LawAt (C : Addr) (T : List (Addr × Str)) (H : Hp) (x r a m b d l : Addr) (g : Fn9) (gw gl : List Cell) (n at_ : Nat) : Prop where
  win : WinAt C H x r a m g gw n
  box : BoxAt H b d at_
  lst : H l = some (.lst (gl.map cV))
  tabs : Tabs T H
  nb : b ∉ [x, r, a, m]
  nd : d ∉ [x, r, a, m]
  nl : l ∉ [x, r, a, m]
  lb : l ≠ b
  ld : l ≠ d
section
variable {C : Addr} {T : List (Addr × Str)} {H H' : Hp} {x r a m b d l : Addr} {g : Fn9} {gw gl gw' : List Cell} {n n' at_ at' : Nat}
theorem lst_tab {xs : List V} : (∀ ps, HO.lst xs ≠ .tbl ps) ∧ ∀ c q, HO.lst xs ≠ CodeO c q := ⟨fun ps z => (by cases z), fun c q z => (by unfold LamX.CodeO at z; cases z)⟩
theorem LawAt.same (L : LawAt C T H x r a m b d l g gw gl n at_) (e : Same H H') : LawAt C T H' x r a m b d l g gw gl n at_ :=
  ⟨L.win.same e, L.box.fix e, e _ _ L.lst, L.tabs.ext e, L.nb, L.nd, L.nl, L.lb, L.ld⟩
theorem WinAt.ext (W : WinAt C H x r a m g gw n) (e : ExtN H H') : WinAt C H' x r a m g gw n := by
  obtain ⟨ne, dx, row, b, kvs, h1, h2, h3, h4, h5⟩ := W
  exact ⟨ne, dx, row, b, kvs, e _ _ h1 (fun ps z => by cases z), e _ _ h2 (fun ps z => by cases z), e _ _ h3 (fun ps z => by cases z), e _ _ h4 (fun ps z => by cases z), h5⟩
theorem BoxAt.ext (B : BoxAt H b d at_) (e : ExtN H H') : BoxAt H' b d at_ := by
  obtain ⟨h1, ns, h2⟩ := B
  exact ⟨e _ _ h1 (fun ps z => by cases z), ns, e _ _ h2 (fun ps z => by cases z)⟩
theorem LawAt.ext (L : LawAt C T H x r a m b d l g gw gl n at_) (e : ExtN H H') (t : Tabs T H') : LawAt C T H' x r a m b d l g gw gl n at_ :=
  ⟨L.win.ext e, L.box.ext e, e _ _ L.lst (fun ps z => by cases z), t, L.nb, L.nd, L.nl, L.lb, L.ld⟩
theorem LawAt.boxed (L : LawAt C T H x r a m b d l g gw gl n at_) (k : Fix [b] H H') (B : BoxAt H' b d at') : LawAt C T H' x r a m b d l g gw gl n at' :=
  ⟨L.win.fix k fun y hy z => L.nb (by rw [← List.mem_singleton.mp z]; exact hy), B, k _ _ (fun z => L.lb (List.mem_singleton.mp z)) L.lst, tabs_fix L.tabs k fun y hy o e => by
    rw [List.mem_singleton.mp hy, L.box.1] at e
    cases e
    exact lst_tab, L.nb, L.nd, L.nl, L.lb, L.ld⟩
theorem LawAt.draw (L : LawAt C T H x r a m b d l g gw gl n at_) : LawAt C T (upd H b (.lst [.ref d, .int (at_ + 1 : Nat)])) x r a m b d l g gw gl n (at_ + 1) := L.boxed (Fix.upd (by simp)) L.box.next
theorem LawAt.moved (L : LawAt C T H x r a m b d l g gw gl n at_) (k : Fix [x, r, a, m] H H') (W : WinAt C H' x r a m g gw' n') : LawAt C T H' x r a m b d l g gw' gl n' at_ := by
  refine ⟨W, ⟨k _ _ L.nb L.box.1, L.box.2.imp fun ns e => k _ _ L.nd e⟩, k _ _ L.nl L.lst, tabs_fix L.tabs k fun y hy o e => ?_, L.nb, L.nd, L.nl, L.lb, L.ld⟩
  obtain ⟨ne, dx, row, b, kvs, h1, h2, h3, h4, h5⟩ := L.win
  rcases List.mem_cons.mp hy with z | hy
  · rw [z, h1] at e
    cases e
    exact ⟨fun ps z => (by cases z), fun c q z => (by unfold LamX.CodeO at z; cases z)⟩
  · rcases List.mem_cons.mp hy with z | hy
    · rw [z, h2] at e
      cases e
      exact lst_tab
    · rcases List.mem_cons.mp hy with z | hy
      · rw [z, h3] at e
        cases e
        exact lst_tab
      · rw [List.mem_singleton.mp hy, h4] at e
        cases e
        exact ⟨fun ps z => (by cases z), fun c q z => (by unfold LamX.CodeO at z; cases z)⟩
theorem LawAt.push (L : LawAt C T H x r a m b d l g gw gl n at_) (gl' : List Cell) : LawAt C T (upd H l (.lst (gl'.map cV))) x r a m b d l g gw gl' n at_ := by
  have k : Fix [l] H (upd H l (.lst (gl'.map cV))) := Fix.upd (by simp)
  exact ⟨L.win.fix k fun y hy z => L.nl (by rw [← List.mem_singleton.mp z]; exact hy), ⟨k _ _ (fun z => L.lb (List.mem_singleton.mp z).symm) L.box.1, L.box.2.imp fun ns e => k _ _ (fun z => L.ld (List.mem_singleton.mp z).symm) e⟩, upd_same, tabs_fix L.tabs k fun y hy o e => by
    rw [List.mem_singleton.mp hy, L.lst] at e
    cases e
    exact lst_tab, L.nb, L.nd, L.nl, L.lb, L.ld⟩
theorem LawAt.swap (L : LawAt C T H x r a m b d l g gw gl n at_) {p : Addr} (hp : H p = none) (gl' : List Cell) : LawAt C T (upd H p (.lst (gl'.map cV))) x r a m b d p g gw gl' n at_ := by
  have e := same_new (o := .lst (gl'.map cV)) hp
  have L' := L.same e
  obtain ⟨ne, dx, row, b', kvs, h1, h2, h3, h4, h5⟩ := L.win
  refine ⟨L'.win, L'.box, upd_same, L'.tabs, L.nb, L.nd, fun z => ?_, (ne_of_none L.box.1 hp).symm, ?_⟩
  · rcases List.mem_cons.mp z with z | z
    · exact ne_of_none h1 hp z.symm
    · rcases List.mem_cons.mp z with z | z
      · exact ne_of_none h2 hp z.symm
      · rcases List.mem_cons.mp z with z | z
        · exact ne_of_none h3 hp z.symm
        · exact ne_of_none h4 hp (List.mem_singleton.mp z).symm
  · obtain ⟨ns, e2⟩ := L.box.2
    exact (ne_of_none e2 hp).symm
end
end K13
set_option Elab.async false
set_option linter.all false
set_option maxRecDepth 100000
set_option maxHeartbeats 8000000
/-! law. -/
namespace K13
open PySem PySem.Spec PyProof.Rows L2
open LamX (Tabs TabS ExtN TabB CodeO)
theorem passNo {X : Cx} : Passes (L2.CX X.prog X.w) X (fun _ _ _ => False) := fun pins σ H s e s' I c => by
  obtain ⟨a, B, H', cls, d, h1, h2, h3, h4, h5, h6, h7, h8⟩ := c
  exact h8.elim
def spLaw (K : PySem.W.Frag) (T : List (Addr × Str)) : Sp := fun vs H Q _ => ∃ (a : Addr) (ns : List Int), vs = [.ref a] ∧ SqL K H a (ns.map V.int) ∧ Tabs T H ∧ ∀ H', Q (.bl true) H'
def nine9 : List Fn9 := [.size, .count, .different, .sum, .least, .greatest, .median, .first, .last]
theorem at9 {v : Int} (h0 : 0 ≤ v) (h1 : v < 9) : ∃ g : Fn9, atI nineV v = some (V.str g.name) := by
  have h : v = 0 ∨ v = 1 ∨ v = 2 ∨ v = 3 ∨ v = 4 ∨ v = 5 ∨ v = 6 ∨ v = 7 ∨ v = 8 := by omega
  rcases h with rfl | rfl | rfl | rfl | rfl | rfl | rfl | rfl | rfl
  · exact ⟨.size, rfl⟩
  · exact ⟨.count, rfl⟩
  · exact ⟨.different, rfl⟩
  · exact ⟨.sum, rfl⟩
  · exact ⟨.least, rfl⟩
  · exact ⟨.greatest, rfl⟩
  · exact ⟨.median, rfl⟩
  · exact ⟨.first, rfl⟩
  · exact ⟨.last, rfl⟩
theorem atBad {v : Int} (h0 : 0 ≤ v) (h1 : v < 5) : ∃ y : Str, atI [V.str "rank", V.str "nth", V.str "lag", V.str "tile", V.str ""] v = some (V.str y) ∧ inV (.str y) nineV = false := by
  have h : v = 0 ∨ v = 1 ∨ v = 2 ∨ v = 3 ∨ v = 4 := by omega
  rcases h with rfl | rfl | rfl | rfl | rfl
  · exact ⟨"rank", rfl, by decide +kernel⟩
  · exact ⟨"nth", rfl, by decide +kernel⟩
  · exact ⟨"lag", rfl, by decide +kernel⟩
  · exact ⟨"tile", rfl, by decide +kernel⟩
  · exact ⟨"", rfl, by decide +kernel⟩
theorem share0 {R G : Prop} (go : R → G) (rest : R) : G := go rest
theorem share4 {R C : Addr → Option V → Option V → Hp → Prop} {G : Prop} (go : (∀ l s9 s10 H2, C l s9 s10 H2 → R l s9 s10 H2) → G) (rest : ∀ l s9 s10 H2, C l s9 s10 H2 → R l s9 s10 H2) : G := go rest
theorem share2 {R C : Bool → Hp → Prop} {G : Prop} (go : (∀ t H2, C t H2 → R t H2) → G) (rest : ∀ t H2, C t H2 → R t H2) : G := go rest
theorem cut1 (y : V) (ys : List V) : cutV (y :: ys) (some 1) none = ys := by
  have e1 : HT.sIx (y :: ys).length 0 (some ((1 : Nat) : Int)) = 1 := by
    rw [HT.sIx_nat, List.length_cons]
    omega
  have e2 : HT.sIx (y :: ys).length (y :: ys).length none = (y :: ys).length := rfl
  show ((y :: ys).drop (HT.sIx (y :: ys).length 0 (some ((1 : Nat) : Int)))).take (HT.sIx (y :: ys).length (y :: ys).length none - HT.sIx (y :: ys).length 0 (some ((1 : Nat) : Int))) = ys
  rw [e1, e2, List.drop_one, List.tail_cons]
  exact List.take_of_length_le (by rw [List.length_cons]; omega)
theorem LawAt.start {C : Addr} {T : List (Addr × Str)} {H K2 H' : Hp} {x dx r a m b d l : Addr} {g : Fn9} {n : Nat} (B : BoxAt H b d n) (hT : Tabs T H) (hx : H x = none) (hdx : H dx = none) (ne : dx ≠ x) (hK : K2 = upd (upd H dx (.own x)) x (.ins C dx [])) (hr : K2 r = none) (ha : K2 a = none) (hm : K2 m = none)
    (hW : WinAt C H' x r a m g [] 0) (hf : Fix [x] K2 H') (hl : H' l = none) : LawAt C T (upd H' l (.lst (([] : List Cell).map cV))) x r a m b d l g [] [] 0 n := by
  have s1 : Same H K2 := by
    rw [hK]
    exact (same_new hdx).trans (same_new (by rw [upd_ne (Ne.symm ne)]; exact hx))
  have kx : K2 x = some (.ins C dx []) := by
    rw [hK]
    exact upd_same
  have B2 := B.fix s1
  obtain ⟨nsd, hd⟩ := B2.2
  have T2 := hT.ext s1
  have bx : b ≠ x := ne_of_none B.1 hx
  have dxx : d ≠ x := ne_of_none (B.2.choose_spec) hx
  have s2 := same_new (o := .lst (([] : List Cell).map cV)) hl
  have B3 : BoxAt H' b d n := ⟨hf _ _ (fun z => bx (List.mem_singleton.mp z)) B2.1, nsd, hf _ _ (fun z => dxx (List.mem_singleton.mp z)) hd⟩
  have T3 : Tabs T H' := tabs_fix T2 hf fun y hy o e => by
    rw [List.mem_singleton.mp hy, kx] at e
    cases e
    exact ⟨fun ps z => (by cases z), fun c q z => (by unfold LamX.CodeO at z; cases z)⟩
  obtain ⟨hne, dx', row, b', kvs, h1, h2, h3, h4, h5⟩ := id hW
  refine ⟨hW.same s2, B3.fix s2, upd_same, T3.ext s2, fun z => ?_, fun z => ?_, fun z => ?_, (ne_of_none B3.1 hl).symm, ?_⟩
  · rcases List.mem_cons.mp z with z | z
    · exact bx z
    · rcases List.mem_cons.mp z with z | z
      · exact ne_of_none B2.1 hr z
      · rcases List.mem_cons.mp z with z | z
        · exact ne_of_none B2.1 ha z
        · exact ne_of_none B2.1 hm (List.mem_singleton.mp z)
  · rcases List.mem_cons.mp z with z | z
    · exact dxx z
    · rcases List.mem_cons.mp z with z | z
      · exact ne_of_none hd hr z
      · rcases List.mem_cons.mp z with z | z
        · exact ne_of_none hd ha z
        · exact ne_of_none hd hm (List.mem_singleton.mp z)
  · rcases List.mem_cons.mp z with z | z
    · exact ne_of_none h1 hl z.symm
    · rcases List.mem_cons.mp z with z | z
      · exact ne_of_none h2 hl z.symm
      · rcases List.mem_cons.mp z with z | z
        · exact ne_of_none h3 hl z.symm
        · exact ne_of_none h4 hl (List.mem_singleton.mp z).symm
  · obtain ⟨ns, e⟩ := B3.2
    exact (ne_of_none e hl).symm
section
variable {w : World} {K : PySem.W.Frag} {mg : Str → Option Value} {base : Heap} {f C Cb fDig fDraw fDrawn fVal fSame fRef fMade fNew fTold fSize fAgg : Addr} {fd dDig dDraw dDrawn dVal dSame dRef dMade dNew dTold dSize dAgg : FuncData} {T : List (Addr × Str)}
abbrev N11 : List Str := ["_law_script", "_law_box", "_law_function", "_law_numbers", "_law_texts", "_law_window", "_law_given", "_law_turn", "_law_kind", "_law_value", "_law_due"]
theorem scLaw : FnScope N11 ["_law_script"] (defScope sLaw) := ⟨rfl, rfl, rfl, by decide +kernel, rfl, by decide +kernel, by decide +kernel⟩
theorem ok_law (F : FnP K "law" "law" sLaw f fd) (W : WinT K C)
    (GDig : FnOk thePr w K mg base CX0 2 fDig dDig ["_law_script", "_law_first", "_law_last"] (spDig K)) (gDig : mg "_law_digits" = some (.ref fDig)) (kDig : PySem.W.keepIn K (.ref fDig) = true) (bDig : Binds K dDig ["_law_script", "_law_first", "_law_last"] [])
    (GDraw : FnOk thePr w K mg base CX0 1 fDraw dDraw ["_law_box", "_law_many"] spDraw) (gDraw : mg "_law_draw" = some (.ref fDraw)) (kDraw : PySem.W.keepIn K (.ref fDraw) = true) (bDraw : Binds K dDraw ["_law_box", "_law_many"] [])
    (GDrawn : FnOk thePr w K mg base CX0 2 fDrawn dDrawn ["_law_box", "_law_texts"] spDrawn) (gDrawn : mg "_law_drawn" = some (.ref fDrawn)) (kDrawn : PySem.W.keepIn K (.ref fDrawn) = true) (bDrawn : Binds K dDrawn ["_law_box", "_law_texts"] [])
    (GVal : FnOk thePr w K mg base CX0 1 fVal dVal ["_law_function", "_law_number", "_law_given"] (spVal K)) (gVal : mg "_law_of_values" = some (.ref fVal)) (kVal : PySem.W.keepIn K (.ref fVal) = true) (bVal : Binds K dVal ["_law_function", "_law_number", "_law_given"] [])
    (GSame : FnOk thePr w K mg base CX0 1 fSame dSame ["_law_actual", "_law_due"] spSame) (gSame : mg "_law_same" = some (.ref fSame)) (kSame : PySem.W.keepIn K (.ref fSame) = true) (bSame : Binds K dSame ["_law_actual", "_law_due"] [])
    (GRef : FnOk thePr w K mg base CX0 4 fRef dRef ["_law_window", "_law_kind", "_law_value"] (spRef C)) (gRef : mg "_law_refused" = some (.ref fRef)) (kRef : PySem.W.keepIn K (.ref fRef) = true) (bRef : Binds K dRef ["_law_window", "_law_kind", "_law_value"] [])
    (GMade : FnOk thePr w K mg base CX0 5 fMade dMade ["_law_function"] spMade) (gMade : mg "_law_made" = some (.ref fMade)) (kMade : PySem.W.keepIn K (.ref fMade) = true) (bMade : Binds K dMade ["_law_function"] [])
    (M : Mk K C fNew) (GNew : FnOk thePr w K mg base (L2.CX thePr w) 3 fNew dNew ["self", "function"] (spNew C Cb)) (bNew : Binds K dNew ["self", "function"] []) (gWin : mg "Window" = some (.ref C))
    (GTold : FnOk thePr w K mg base CX0 3 fTold dTold ["self"] (spTold C (fun _ _ => True) valueOf)) (mTold : Meth K C "told" fTold) (bTold : Binds K dTold ["self"] [])
    (GSize : FnOk thePr w K mg base CX0 1 fSize dSize ["self"] (spTold C (fun _ _ => True) (fun _ => valueOf .size))) (mSize : Meth K C "size" fSize) (bSize : Binds K dSize ["self"] [])
    (GAgg : FnOk thePr w K mg base CX0 3 fAgg dAgg ["function", "values"] (spAgg K T)) (gAgg : mg "aggregate" = some (.ref fAgg)) (kAgg : PySem.W.keepIn K (.ref fAgg) = true) (bAgg : Binds K dAgg ["function", "values"] [])
    (len : mg "len" = none) (rng : mg "range" = none) (lis : mg "list" = none) : FnOk thePr w K mg base CX0 6 f fd ["_law_script"] (spLaw K T) := by
  refine F.ok scLaw (fun vs H Q E h => ?_) (fun cdv A outer s H vs Q E hr h => ⟨_, PSs.nox (pss_cons (ps_set (i := 1) scLaw.nd rfl (Or.inl rfl) (pe_lst (pa_cons (pe_call GDig (hr.mono (by decide)) (by rfl) gDig kDig bDig .nil pass0 (pa_cons (pv 0) (pa_cons pe_int (pa_cons pe_int pa_nil)))) (pa_cons pe_int pa_nil))))
      (pss_cons (ps_set (i := 2) scLaw.nd rfl (Or.inl rfl) (pe_ix ix_list (pe_lst (pa_cons pe_str (pa_cons pe_str (pa_cons pe_str (pa_cons pe_str (pa_cons pe_str (pa_cons pe_str (pa_cons pe_str (pa_cons pe_str (pa_cons pe_str pa_nil))))))))))
        (pe_call GDraw (hr.mono (by decide)) (by rfl) gDraw kDraw bDraw .nil pass0 (pa_cons (pv 1) (pa_cons pe_int pa_nil))) (fun _ _ => rfl)))
      (pss_cons (ps_set (i := 3) scLaw.nd rfl (Or.inl rfl) (pe_cmpR op_in_seq (pv 2) (pe_lst (pa_cons pe_str (pa_cons pe_str pa_nil))) (by rfl)))
      (pss_cons (ps_set (i := 4) scLaw.nd rfl (Or.inl rfl) (pe_and (pe_not (pv 3)) (pe_one (pe_cmpR op_eq (pe_call GDraw (hr.mono (by decide)) (by rfl) gDraw kDraw bDraw .nil pass0 (pa_cons (pv 1) (pa_cons pe_int pa_nil))) pe_int (nomark _)))))
      (pss_cons (ps_set (i := 5) scLaw.nd rfl (Or.inl rfl) (pe_make M GNew (hr.mono (by decide)) (by rfl) gWin bNew .nil passNo (pa_cons (pv 2) pa_nil)))
      (pss_cons (ps_set (i := 6) scLaw.nd rfl (Or.inl rfl) (pe_lst pa_nil))
      (pss_cons (ps_for PassesOwn.never rfl (pi_range1 (by rfl) rng (pa_cons pe_int pa_nil)) (pg_name (i := 7) scLaw.nd rfl (Or.inl rfl))
        (pss_cons (ps_set (i := 8) scLaw.nd rfl (Or.inl rfl) (pe_call GDraw (hr.mono (by decide)) (by rfl) gDraw kDraw bDraw .nil pass0 (pa_cons (pv 1) (pa_cons pe_int pa_nil))))
        (pss_cons (ps_if (PW.pt (pw_and (pt_cmpR op_lt (pv 8) pe_int (nomark _)) (pw_and1 (pt_cmpR op_lt (pe_callB call_len_seq (by rfl) len PySem.boot_len (pa_cons (pv 6) pa_nil)) pe_int (nomark _)))))
          (pss_cons (ps_set (i := 9) scLaw.nd rfl (Or.inl rfl) (pe_call GDrawn (hr.mono (by decide)) (by rfl) gDrawn kDrawn bDrawn .nil pass0 (pa_cons (pv 1) (pa_cons (pv 4) pa_nil))))
          (pss_cons (ps_if (pt_cmpR op_notN (pe_call GRef (hr.mono (by decide)) (by rfl) gRef kRef bRef .nil pass0 (pa_cons (pv 5) (pa_cons pe_str (pa_cons (pv 9) pa_nil)))) pe_non (nomark _)) pss_never pss_nil)
          (pss_one (ps_expr (pe_bm PySem.F.plainAttrs_list PySem.F.slot_list_append PySem.F.type_list_append mt_append (pv 6) (pa_cons (pv 9) pa_nil))))))
          (pss_one (ps_if (PW.pt (pw_and (pt_cmpR op_eq (pv 8) pe_int (nomark _)) (pw_and1 (pt_val (pv 3)))))
            (pss_one (ps_if (pt_cmpR op_ne (pe_call GRef (hr.mono (by decide)) (by rfl) gRef kRef bRef .nil pass0 (pa_cons (pv 5) (pa_cons pe_str (pa_cons pe_str pa_nil)))) pe_str (nomark _)) pss_never pss_nil))
            (pss_cons (ps_set (i := 10) scLaw.nd rfl (Or.inl rfl) pe_non)
            (pss_cons (ps_if (pt_cmpR op_eq (pe_callB call_len_seq (by rfl) len PySem.boot_len (pa_cons (pv 6) pa_nil)) pe_int (nomark _)) (pss_one (ps_set (i := 10) scLaw.nd rfl (Or.inl rfl) pe_str)) pss_nil)
            (pss_cons (ps_if (pt_cmpR op_ne (pe_call GRef (hr.mono (by decide)) (by rfl) gRef kRef bRef .nil pass0 (pa_cons (pv 5) (pa_cons pe_str (pa_cons pe_non pa_nil)))) (pv 10) (nomark _)) pss_never pss_nil)
            (pss_one (ps_set (i := 6) scLaw.nd rfl (Or.inl rfl) (pe_slice sl_list (pv 6) (po_some pe_int) po_none)))))))))
        (pss_cons (ps_set (i := 9) scLaw.nd rfl (Or.inl rfl) (pe_call GVal (hr.mono (by decide)) (by rfl) gVal kVal bVal .nil pass0 (pa_cons (pv 2) (pa_cons pe_non (pa_cons (pv 6) pa_nil)))))
        (pss_cons (ps_if (PW.pt (pw_or (pt_not (pt_val (pe_call GSame (hr.mono (by decide)) (by rfl) gSame kSame bSame .nil pass0 (pa_cons (pe_meth0 (pv 5) W.cl mTold GTold (hr.mono (by decide)) bTold .nil pass0) (pa_cons (pv 9) pa_nil)))))
            (pw_or1 (pt_not (pt_val (pe_call GSame (hr.mono (by decide)) (by rfl) gSame kSame bSame .nil pass0 (pa_cons (pe_meth0 (pv 5) W.cl mSize GSize (hr.mono (by decide)) bSize .nil pass0) (pa_cons (pe_callB call_len_seq (by rfl) len PySem.boot_len (pa_cons (pv 6) pa_nil)) pa_nil)))))))) pss_never pss_nil)
        (pss_one (ps_if (pt_not (pt_val (pe_call GSame (hr.mono (by decide)) (by rfl) gSame kSame bSame .nil pass0 (pa_cons (pe_call GAgg (hr.mono (by decide)) (by rfl) gAgg kAgg bAgg .nil pass0 (pa_cons (pv 2) (pa_cons (pe_callTy call_list_of (by rfl) lis (by decide +kernel) (pa_cons (pv 6) pa_nil)) pa_nil))) (pa_cons (pv 9) pa_nil))))) pss_never pss_nil)))))))
      (pss_one (ps_ret (pe_cmpR op_eq (pe_call GMade hr (by rfl) gMade kMade bMade .nil pass0 (pa_cons (pe_ix ix_list (pe_lst (pa_cons pe_str (pa_cons pe_str (pa_cons pe_str (pa_cons pe_str (pa_cons pe_str pa_nil)))))) (pe_call GDraw (hr.mono (by decide)) (by rfl) gDraw kDraw bDraw .nil pass0 (pa_cons (pv 1) (pa_cons pe_int pa_nil))) (fun _ _ => rfl)) pa_nil)) pe_str (nomark _))))))))))), ?_⟩)
  · obtain ⟨a, ns, rfl, _⟩ := h
    rfl
  · obtain ⟨sc, ns, rfl, hS, hT, q⟩ := h
    have two : 2 ≤ sizeLine := by rw [sizeLine_eq]; decide
    have hsz : (1000 : Nat) < sizeLine := by rw [sizeLine_eq]; decide
    refine ⟨_, rfl, sc, ns, rfl, hS, fun d ds hd _ => ⟨two, fun b hb => ?_⟩⟩
    have s1 : Same H (upd (upd H d (.lst (ds.map V.int))) b (.lst [.ref d, .int 0])) := (same_new hd).trans (same_new hb)
    have db : d ≠ b := ne_of_none upd_same hb
    have B1 : BoxAt (upd (upd H d (.lst (ds.map V.int))) b (.lst [.ref d, .int 0])) b d 0 := ⟨upd_same, ds, by rw [upd_ne db]; exact upd_same⟩
    have T1 := hT.ext s1
    generalize upd (upd H d (.lst (ds.map V.int))) b (.lst [.ref d, .int 0]) = H1 at B1 T1
    refine ⟨(by show 9 ≤ sizeLine; rw [sizeLine_eq]; decide), fun p hp => ?_⟩
    have B2 := B1.new (o := .lst [.str "size", .str "count", .str "different", .str "sum", .str "least", .str "greatest", .str "median", .str "first", .str "last"]) hp
    have pb : p ≠ b := (ne_of_none B1.1 hp).symm
    refine ⟨_, rfl, b, d, 0, 9, rfl, by decide, B2, fun v h0 h1 => ?_⟩
    obtain ⟨g, eg⟩ := at9 h0 h1
    refine ⟨p, nineV, v, _, rfl, rfl, SqL.of (by rw [upd_ne pb]; exact upd_same), eg, ?_⟩
    have B3 := B2.next
    have T3 : Tabs T (upd (upd H1 p (.lst [.str "size", .str "count", .str "different", .str "sum", .str "least", .str "greatest", .str "median", .str "first", .str "last"])) b (.lst [.ref d, .int (0 + 1 : Nat)])) := tabs_fix (T1.ext (same_new hp)) (Fix.upd (S := [b]) (by simp)) fun y hy o e => by
      rw [List.mem_singleton.mp hy, B2.1] at e
      cases e
      exact lst_tab
    generalize upd (upd H1 p (.lst [.str "size", .str "count", .str "different", .str "sum", .str "least", .str "greatest", .str "median", .str "first", .str "last"])) b (.lst [.ref d, .int (0 + 1 : Nat)]) = H3 at B3 T3
    refine ⟨_, rfl, two, fun p2 hp2 => ⟨p2, _, rfl, .inl (SqL.of upd_same), rfl, by decide, ?_⟩⟩
    show gName 3 (V.bl (inV (.str g.name) twoV)) _ _ _
    rw [in_two]
    have B4 := B3.new (o := .lst [.str "sum", .str "median"]) hp2
    have T4 := T3.ext (same_new (o := .lst [.str "sum", .str "median"]) hp2)
    generalize upd H3 p2 (.lst [.str "sum", .str "median"]) = H4 at B4 T4
    refine ⟨_, rfl, _, rfl, _, rfl, ?_⟩
    apply share2 (C := fun t H2 => (t = true → g.num = false) ∧ (∃ n, BoxAt H2 b d n) ∧ Tabs T H2)
    · intro rest
      by_cases hn : g.num = true
      case neg =>
        have hn : g.num = false := by simpa using hn
        refine ifT (by rw [hn]; rfl) ?_
        refine ⟨_, rfl, b, d, _, 2, rfl, by decide, B4, fun v2 p0 p1 => ⟨rfl, ?_⟩⟩
        have B5 := B4.next
        have T5 : Tabs T (upd H4 b (.lst [.ref d, .int (0 + 1 + 1 : Nat)])) := tabs_fix T4 (Fix.upd (S := [b]) (by simp)) fun y hy o e => by
          rw [List.mem_singleton.mp hy, B4.1] at e
          cases e
          exact lst_tab
        generalize upd H4 b (.lst [.ref d, .int (0 + 1 + 1 : Nat)]) = H5 at B5 T5
        generalize decide (V.int v2 = V.int 0) = t
        exact rest t H5 ⟨fun _ => hn, ⟨_, B5⟩, T5⟩
      case pos =>
        refine ifF (by rw [hn]; rfl) ?_
        exact rest false H4 ⟨fun z => absurd z Bool.false_ne_true, ⟨_, B4⟩, T4⟩
    · rintro t H5 ⟨ht, ⟨n0, B5⟩, T5⟩
      refine ⟨_, rfl, fun x dx hx hdx ne => ⟨x, dx, _, rfl, upd_same, .inl ⟨g, rfl, fun r a m H6 hr6 ha6 hm6 hW hf => ⟨rfl, ?_⟩⟩⟩⟩
      refine ⟨Nat.zero_le _, fun l0 hl0 => ?_⟩
      have L0 := LawAt.start B5 T5 hx hdx ne rfl hr6 ha6 hm6 hW hf hl0
      have hnum : ∀ {given : List Cell}, (∀ c ∈ given, CellOk t c) → g.num = true → ∀ c ∈ given, cText c = false := fun {given} hok hg c hc => by
        cases c with
        | none => rfl
        | some k =>
          cases k with
          | inl i => rfl
          | inr y =>
            have z := ht (hok _ hc).1
            rw [hg] at z
            cases z
      refine ⟨30, rfl, by decide, by decide, for_range (lo := 0) (n := 30) (fun i σ H' => ∃ (given : List Cell) (n at_ : Nat) (l : Addr) (v7 v8 v9 v10 : Option V), σ = [some (.ref sc), some (.ref b), some (.str g.name), some (.bl g.num), some (.bl t), some (.ref x), some (.ref l), v7, v8, v9, v10] ∧
        LawAt C T H' x r a m b d l g given given n at_ ∧ n ≤ i ∧ given.length ≤ 14 ∧ ∀ c ∈ given, CellOk t c) ⟨[], 0, n0, l0, none, none, none, none, rfl, L0, Nat.zero_le _, Nat.zero_le _, fun c hc => by cases hc⟩ ?_ ?_⟩
      · rintro i σ H' hi ⟨given, n, at_, l, v7, v8, v9, v10, rfl, L, hn, hlen, hok⟩
        refine ⟨_, rfl, b, d, at_, 5, rfl, by decide, L.box, fun v h0 h1 => ?_⟩
        have L1 := L.draw
        generalize upd H' b (.lst [.ref d, .int (at_ + 1 : Nat)]) = H1 at L1
        refine ⟨_, rfl, _, _, rfl, rfl, _, rfl, ?_⟩
        apply share4 (C := fun l' s9 s10 H2 => ∃ (given' : List Cell) (n' at' : Nat), LawAt C T H2 x r a m b d l' g given' given' n' at' ∧ n' ≤ i + 1 ∧ given'.length ≤ 14 ∧ ∀ c ∈ given', CellOk t c)
        · intro rest
          have hn1 : n < 1000 := by omega
          by_cases c1 : v < 3 ∧ given.length < 14
          · refine ifT (decide_eq_true c1.1) ⟨_, rfl, l, _, rfl, .inl (SqL.of L1.lst), _, _, rfl, rfl, _, rfl, ifT (decide_eq_true (by rw [List.length_map]; omega)) ?_⟩
            refine ⟨_, rfl, _, rfl, b, d, _, t, rfl, L1.box, fun c at2 H2 hc hf2 B2 => ?_⟩
            have L2 := L1.boxed hf2 B2
            have hz : (g.num && cText c) = false := by
              cases hg : g.num with
              | false => rfl
              | true =>
                have z := hnum (given := [c]) (fun c' hc' => by rw [List.mem_singleton.mp hc']; exact hc) hg c (by simp)
                rw [z]
                rfl
            refine ⟨_, rfl, _, rfl, x, r, a, m, g, given, n, L2.win, hn1, .inl ⟨c, rfl, fun z => (by rw [hz] at z; cases z), fun _ H3 hf3 hw3 => ⟨rfl, _, rfl, ifF (by decide +kernel) ?_⟩⟩⟩
            have L3 := L2.moved hf3 hw3
            refine ⟨_, rfl, .inl ⟨rfl, _, SqL.of L3.lst⟩, _, rfl, l, _, _, rfl, rfl, L3.lst, by rw [List.length_map]; omega, ?_⟩
            have L4 := L3.push (given ++ [c])
            rw [List.map_append] at L4
            have L4 : LawAt C T (upd H3 l (.lst (given.map cV ++ [cV c]))) x r a m b d l g (given ++ [c]) (given ++ [c]) (n + 1) at2 := L4
            generalize upd H3 l (.lst (given.map cV ++ [cV c])) = H4 at L4
            generalize some (cV c) = s9
            generalize hl9 : l = l9
            generalize v10 = w10
            exact rest l9 s9 w10 H4 ⟨given ++ [c], n + 1, at2, by rw [← hl9]; exact L4, by omega, by rw [List.length_append, List.length_singleton]; omega, fun c' hc' => by
              rcases List.mem_append.mp hc' with z | z
              · exact hok c' z
              · rw [List.mem_singleton.mp z]
                exact hc⟩
          · have a1 : v < 3 → ¬ (((given.map cV).length : Nat) : Int) < 14 := fun c2 => by
              rw [List.length_map]
              omega
            apply share0
            · intro els
              by_cases c2 : v < 3
              · refine ifT (decide_eq_true c2) ⟨_, rfl, l, _, rfl, .inl (SqL.of L1.lst), _, _, rfl, rfl, _, rfl, ifF (decide_eq_false (a1 c2)) ?_⟩
                exact els
              · refine ifF (decide_eq_false c2) ?_
                exact els
            · refine ⟨_, rfl, rfl, _, rfl, ?_⟩
              by_cases c3 : v = 3 ∧ g.num = true
              · refine ifT (decide_eq_true (by rw [c3.1])) ⟨_, rfl, _, rfl, ifT c3.2 ?_⟩
                refine ⟨_, rfl, x, r, a, m, g, given, n, L1.win, hn1, .inl ⟨some (.inr "a"), rfl, fun _ H2 hs2 => ⟨rfl, _, rfl, ifF (by decide +kernel) ?_⟩, fun z => (by rw [c3.2] at z; cases z)⟩⟩
                exact rest l v9 v10 H2 ⟨given, n, _, L1.same hs2, by omega, hlen, hok⟩
              · apply share0
                · intro els
                  by_cases c4 : v = 3
                  · have hg : g.num = false := by
                      cases z : g.num with
                      | false => rfl
                      | true => exact absurd ⟨c4, z⟩ c3
                    refine ifT (decide_eq_true (by rw [c4])) ⟨_, rfl, _, rfl, ifF hg ?_⟩
                    exact els
                  · refine ifF (decide_eq_false (fun z => c4 (by injection z))) ?_
                    exact els
                · refine ⟨_, rfl, l, _, rfl, .inl (SqL.of L1.lst), rfl, _, rfl, ?_⟩
                  rw [List.length_map]
                  cases given with
                  | nil =>
                    refine ifT (by decide +kernel) ?_
                    refine ⟨_, rfl, x, r, a, m, g, [], n, L1.win, hn1, .inr ⟨rfl, fun _ H2 hs2 => ⟨_, rfl, rfl, _, rfl, ifF (by decide +kernel) ?_⟩, fun c rest' z => (by cases z)⟩⟩
                    have L2 := L1.same hs2
                    refine ⟨_, rfl, 1, rfl, l, _, rfl, SqL.of L2.lst, fun p hp => ?_⟩
                    have L3 := L2.swap hp []
                    exact rest p v9 _ _ ⟨[], n, _, L3, by omega, hlen, hok⟩
                  | cons c gs =>
                    refine ifF (decide_eq_false (fun z => by injection z with z; rw [List.length_cons] at z; omega)) ?_
                    refine ⟨_, rfl, x, r, a, m, g, c :: gs, n, L1.win, hn1, .inr ⟨rfl, fun z => (by cases z), fun c' gs' z H2 hf2 hw2 => ⟨_, rfl, rfl, _, rfl, ifF (by decide +kernel) ?_⟩⟩⟩
                    cases z
                    have L2 := L1.moved hf2 hw2
                    refine ⟨_, rfl, 1, rfl, l, _, rfl, SqL.of L2.lst, fun p hp => ?_⟩
                    rw [List.map_cons, cut1]
                    have L3 := L2.swap hp gs
                    exact rest p v9 _ _ ⟨gs, n, _, L3, by omega, by rw [List.length_cons] at hlen; omega, fun c' hc' => hok c' (List.mem_cons_of_mem _ hc')⟩
        · rintro l' s9 s10 H2 ⟨given', n', at', L2, hn2, hlen2, hok2⟩
          refine ⟨_, rfl, _, rfl, g, l', given', rfl, SqL.of L2.lst, by omega, hnum hok2, fun H3 hs3 => ?_⟩
          have L3 := L2.same hs3
          have rv := repr_value g hlen2 hok2
          obtain ⟨hne, dx', row, b', kvs, h1', h2', h3', h4', h5'⟩ := id L3.win
          refine ⟨_, rfl, x, dx', _, rfl, h1', lmt, x, r, a, m, g, given', n', rfl, L3.win, trivial, fun H4 hs4 => ⟨_, rfl, _, rfl, rv, _, rfl, ?_⟩⟩
          have L4 := L3.same hs4
          refine ifF rfl ?_
          obtain ⟨hne, dx4, row4, b4, kvs4, h14, h24, h34, h44, h54⟩ := id L4.win
          refine ⟨_, rfl, x, dx4, _, rfl, h14, lms, x, r, a, m, g, given', n', rfl, L4.win, trivial, fun H5 hs5 => ?_⟩
          have L5 := L4.same hs5
          refine ⟨_, rfl, l', _, rfl, .inl (SqL.of L5.lst), cV (valueOf .size given'), by rw [List.length_map]; rfl, repr_value .size hlen2 hok2, _, rfl, ?_⟩
          refine ifF rfl ?_
          refine ⟨_, rfl, _, rfl, l', _, rfl, .inl (SqL.of L5.lst), fun l2 hl2 => ?_⟩
          have s6 := same_new (o := .lst (given'.map cV)) hl2
          have L6 := L5.same s6
          refine ⟨g, l2, given', rfl, SqL.of upd_same, by omega, hnum hok2, L6.tabs, fun H7 e7 t7 => ⟨_, rfl, _, rfl, rv, _, rfl, ifF rfl ?_⟩⟩
          exact ⟨given', n', at', l', _, _, _, _, rfl, L6.ext e7 t7, hn2, hlen2, hok2⟩
      · rintro σ H' ⟨given, n, at_, l, v7, v8, v9, v10, rfl, L, hn, hlen, hok⟩
        refine ⟨(by show 5 ≤ sizeLine; rw [sizeLine_eq]; decide), fun p hp => ?_⟩
        have L1 := L.same (same_new (o := .lst [.str "rank", .str "nth", .str "lag", .str "tile", .str ""]) hp)
        have pb : p ≠ b := (ne_of_none L.box.1 hp).symm
        refine ⟨_, rfl, b, d, at_, 5, rfl, by decide, L1.box, fun v h0 h1 => ?_⟩
        obtain ⟨y, ey, hy⟩ := atBad h0 h1
        refine ⟨p, _, v, _, rfl, rfl, SqL.of (by rw [upd_ne pb]; exact upd_same), ey, y, rfl, hy, fun H'' hs => ⟨rfl, ?_⟩⟩
        have e : decide (V.str "function" = V.str "function") = true := decide_eq_true rfl
        show Q (.bl (decide (V.str "function" = V.str "function"))) _
        rw [e]
        exact q _
end
end K13
set_option Elab.async false
set_option linter.all false
set_option maxRecDepth 100000
set_option maxHeartbeats 8000000
/-! The parts joined: law keeps its promise; the head; the end. -/
namespace K13
open PySem PySem.Spec PyProof.Rows L2
open LamX (Tabs TabS ExtN TabB CodeO)
theorem all_ok {w : World} {K : PySem.W.Frag} {h : Heap} {mg : Str → Option Value} {f : Addr} (X : K.In h) (G : h.Ns mainGlobals mg) (hfa : mg ("law" : Str) = some (.ref f)) (S : SaysZ facts fns tabs exB h K) :
    LamX.LawAtS PySem.Challenge.rw_windowtable_k13_windows_told w K CX0 6 63 "_law_script" mg f h := by
  have c := S.d
  have glo : ∀ (i : Nat) (x : Str), facts[i]? = some (.glo x) → mg x = some (.ref (He.ga K x)) := fun i x e => He.glo_ok X G (c.fact i e)
  have fre : ∀ (i : Nat) (x : Str), facts[i]? = some (.free x) → mg x = none := fun i x e => He.free_ok X G (c.fact i e)
  obtain ⟨dK, FK⟩ := c.def_ 0 (d := dfn "key_of" sKey) rfl
  obtain ⟨dM, FM⟩ := c.def_ 1 (d := dfn "middle" sMid) rfl
  obtain ⟨dO, FO⟩ := c.def_ 2 (d := dfn "of_given" sOfG) rfl
  obtain ⟨dA, FA⟩ := c.def_ 3 (d := dfn "aggregate" sAgg) rfl
  obtain ⟨dP, FP⟩ := c.def_ 4 (d := dfn "place_in" sPla) rfl
  obtain ⟨d0, F0⟩ := c.def_ 5 (d := mth "__init__" "Window.__init__" 0) rfl
  obtain ⟨d1, F1⟩ := c.def_ 6 (d := mth "add" "Window.add" 1) rfl
  obtain ⟨d2, F2⟩ := c.def_ 7 (d := mth "drop" "Window.drop" 2) rfl
  obtain ⟨d3, F3⟩ := c.def_ 8 (d := mth "size" "Window.size" 3) rfl
  obtain ⟨d4, F4⟩ := c.def_ 9 (d := mth "end_value" "Window.end_value" 4) rfl
  obtain ⟨d5, F5⟩ := c.def_ 10 (d := mth "given_value" "Window.given_value" 5) rfl
  obtain ⟨d6, F6⟩ := c.def_ 11 (d := mth "told" "Window.told" 6) rfl
  obtain ⟨dc, Fc⟩ := c.def_ 12 (d := dfn "_law_cell" sCell) rfl
  obtain ⟨dd, Fd⟩ := c.def_ 13 (d := dfn "_law_digits" sDig) rfl
  obtain ⟨dw, Fw⟩ := c.def_ 14 (d := dfn "_law_draw" sDraw) rfl
  obtain ⟨ds, Fs⟩ := c.def_ 15 (d := dfn "_law_same" sSame) rfl
  obtain ⟨dr, Fr⟩ := c.def_ 16 (d := dfn "_law_rank" sRank) rfl
  obtain ⟨dv, Fv⟩ := c.def_ 17 (d := dfn "_law_of_values" sVal) rfl
  obtain ⟨df, Ff⟩ := c.def_ 18 (d := dfn "_law_refused" sRef) rfl
  obtain ⟨dm, Fm⟩ := c.def_ 19 (d := dfn "_law_made" sMade) rfl
  obtain ⟨dn, Fn⟩ := c.def_ 20 (d := dfn "_law_drawn" sDrawn) rfl
  obtain ⟨dl, Fl⟩ := c.def_ 21 (d := dfn "law" sLaw) rfl
  have e := hfa.symm.trans (glo 18 "law" rfl)
  cases e
  have ni := fre 20 "isinstance" rfl
  have ns := fre 21 "str" rfl
  have len := fre 19 "len" rfl
  have nsu := fre 32 "super" rfl
  obtain ⟨m1, m⟩ := He.ba S.more
  obtain ⟨m2, m⟩ := He.ba m
  obtain ⟨m3, m⟩ := He.ba m
  obtain ⟨m4, m⟩ := He.ba m
  obtain ⟨m5, m⟩ := He.ba m
  obtain ⟨m6, m7⟩ := He.ba m
  have BT := badB_ok m1
  have I0 := iniT_of S.ini m2
  have tA : ∀ H, SqT K H (He.ga K "AGGREGATES") nineV := fun H => He.tupB_ok m3 H
  have tN : ∀ H, SqT K H (He.ga K "NO_TEXTS") twoV := fun H => He.tupB_ok m4 H
  have D3 : Tab3 (He.cT K ("middle", none)).2 (He.cT K ("of_given", none)).2 (He.cT K ("aggregate", none)).2 := ⟨of_decide_eq_true m5, of_decide_eq_true m6, of_decide_eq_true m7⟩
  have gC := glo 6 "BadArgument" rfl
  have W : WinT K (He.ga K "Window") := ⟨He.cls_ok (c.fact 33 (f := .cls "Window") rfl), He.noat_ok (c.fact 35 (f := .noat "Window" "function") rfl), He.noat_ok (c.fact 36 (f := .noat "Window" "row") rfl), He.noat_ok (c.fact 37 (f := .noat "Window" "begin") rfl),
    He.noat_ok (c.fact 38 (f := .noat "Window" "ascending") rfl), He.noat_ok (c.fact 39 (f := .noat "Window" "many") rfl), He.noat_ok (c.fact 40 (f := .noat "Window" "total") rfl)⟩
  have bK : Binds K dK ["value"] [] := FK.bindsN fun _ _ _ _ _ _ us hl => match us, hl with | [_], _ => rfl
  have bM : Binds K dM ["given"] [] := FM.bindsN fun _ _ _ _ _ _ us hl => match us, hl with | [_], _ => rfl
  have bO : Binds K dO ["function", "given"] [] := FO.bindsN fun _ _ _ _ _ _ us hl => match us, hl with | [_, _], _ => rfl
  have bA : Binds K dA ["function", "values"] [] := FA.bindsN fun _ _ _ _ _ _ us hl => match us, hl with | [_, _], _ => rfl
  have bP : Binds K dP ["given", "value"] [] := FP.bindsN fun _ _ _ _ _ _ us hl => match us, hl with | [_, _], _ => rfl
  have b0 : Binds K d0 ["self", "function"] [] := F0.bindsN fun _ _ _ _ _ _ us hl => match us, hl with | [_, _], _ => rfl
  have b1 : Binds K d1 ["self", "value"] [] := F1.bindsN fun _ _ _ _ _ _ us hl => match us, hl with | [_, _], _ => rfl
  have b2 : Binds K d2 ["self"] [] := F2.bindsN fun _ _ _ _ _ _ us hl => match us, hl with | [_], _ => rfl
  have b3 : Binds K d3 ["self"] [] := F3.bindsN fun _ _ _ _ _ _ us hl => match us, hl with | [_], _ => rfl
  have b4 : Binds K d4 ["self"] [] := F4.bindsN fun _ _ _ _ _ _ us hl => match us, hl with | [_], _ => rfl
  have b5 : Binds K d5 ["self"] [] := F5.bindsN fun _ _ _ _ _ _ us hl => match us, hl with | [_], _ => rfl
  have b6 : Binds K d6 ["self"] [] := F6.bindsN fun _ _ _ _ _ _ us hl => match us, hl with | [_], _ => rfl
  have bc : Binds K dc ["_law_script", "_law_k"] [] := Fc.bindsN fun _ _ _ _ _ _ us hl => match us, hl with | [_, _], _ => rfl
  have bd : Binds K dd ["_law_script", "_law_first", "_law_last"] [] := Fd.bindsN fun _ _ _ _ _ _ us hl => match us, hl with | [_, _, _], _ => rfl
  have bw : Binds K dw ["_law_box", "_law_many"] [] := Fw.bindsN fun _ _ _ _ _ _ us hl => match us, hl with | [_, _], _ => rfl
  have bs : Binds K ds ["_law_actual", "_law_due"] [] := Fs.bindsN fun _ _ _ _ _ _ us hl => match us, hl with | [_, _], _ => rfl
  have br : Binds K dr ["_law_value"] [] := Fr.bindsN fun _ _ _ _ _ _ us hl => match us, hl with | [_], _ => rfl
  have bv : Binds K dv ["_law_function", "_law_number", "_law_given"] [] := Fv.bindsN fun _ _ _ _ _ _ us hl => match us, hl with | [_, _, _], _ => rfl
  have bf : Binds K df ["_law_window", "_law_kind", "_law_value"] [] := Ff.bindsN fun _ _ _ _ _ _ us hl => match us, hl with | [_, _, _], _ => rfl
  have bm : Binds K dm ["_law_function"] [] := Fm.bindsN fun _ _ _ _ _ _ us hl => match us, hl with | [_], _ => rfl
  have bn : Binds K dn ["_law_box", "_law_texts"] [] := Fn.bindsN fun _ _ _ _ _ _ us hl => match us, hl with | [_, _], _ => rfl
  have bl := FunD.bindsA (ps := ["_law_script"]) Fl fun _ _ _ _ _ _ us hl => match us, hl with | [_], _ => rfl
  have gK := glo 0 "key_of" rfl
  have mth_ : ∀ (i : Nat) (x : Str), facts[i]? = some (.meth "Window" x) → Meth K (He.ga K "Window") x (He.ma K (He.ga K "Window") x) := fun i x e => He.meth_ok (c.fact i e)
  have cM : CodeIs K (He.ga K "middle") dM (He.cT K ("middle", none)).1 := fun oc od osl c' lk e => He.codeOf_eq (p := ("middle", none)) lk e
  have cO : CodeIs K (He.ga K "of_given") dO (He.cT K ("of_given", none)).1 := fun oc od osl c' lk e => He.codeOf_eq (p := ("of_given", none)) lk e
  have cA : CodeIs K (He.ga K "aggregate") dA (He.cT K ("aggregate", none)).1 := fun oc od osl c' lk e => He.codeOf_eq (p := ("aggregate", none)) lk e
  refine ⟨dl, tabs.map (He.cT K), spLaw K (tabT (He.cT K ("middle", none)).2 (He.cT K ("of_given", none)).2 (He.cT K ("aggregate", none)).2), fun p hp => ?_, fun p hp => ?_, fun p hp => ?_, fun s u => bl s [u] rfl, fun H a ns _ _ hH hS => ?_, fun base KB GB TB => ?_⟩
  · obtain ⟨q, hq, rfl⟩ := List.mem_map.mp hp
    exact S.empty q hq
  · obtain ⟨q, hq, rfl⟩ := List.mem_map.mp hp
    exact S.out q hq
  · obtain ⟨q, hq, rfl⟩ := List.mem_map.mp hp
    exact PySem.W.codeHd_of_K X (S.hd q hq)
  · refine ⟨a, ns, rfl, hS, fun p hp => ?_, fun _ => rfl⟩
    rcases List.mem_cons.mp hp with z | hp
    · rw [z]
      exact LamX.TabS.nil (hH _ (List.mem_map.mpr ⟨("middle", none), by simp [tabs], rfl⟩))
    · rcases List.mem_cons.mp hp with z | hp
      · rw [z]
        exact LamX.TabS.nil (hH _ (List.mem_map.mpr ⟨("of_given", none), by simp [tabs], rfl⟩))
      · rw [List.mem_singleton.mp hp]
        exact LamX.TabS.nil (hH _ (List.mem_map.mpr ⟨("aggregate", none), by simp [tabs], rfl⟩))
  · have TM := TB _ (List.mem_map.mpr ⟨("middle", none), by simp [tabs], rfl⟩)
    have TO := TB _ (List.mem_map.mpr ⟨("of_given", none), by simp [tabs], rfl⟩)
    have TA := TB _ (List.mem_map.mpr ⟨("aggregate", none), by simp [tabs], rfl⟩)
    have GK := ok_key (P := thePr) (w := w) (base := base) FK ni ns
    have GP := ok_pla FP GK gK FK.kp bK len
    have GM := ok_mid (P := thePr) (w := w) FM cM FK bK gK ni ns (fre 22 "sorted" rfl) len TM D3
    have GO := ok_ofg FO cO FK bK gK ni ns (fre 24 "min" rfl) (fre 25 "max" rfl) (fre 26 "sum" rfl) GM (glo 1 "middle" rfl) FM.kp bM TO D3
    have GA := ok_agg FA cA (glo 7 "AGGREGATES" rfl) tA ni ns (fre 23 "any" rfl) (fre 27 "set" rfl) len GO (glo 2 "of_given" rfl) FO.kp bO TA (S.out _ (by simp [tabs])) D3
    have G0 := ok_new (w := w) (base := base) F0 W (glo 7 "AGGREGATES" rfl) tA BT I0 nsu gC
    have G1 := ok_add F1 W (glo 8 "NO_TEXTS" rfl) tN BT I0 nsu gC GP (glo 4 "place_in" rfl) FP.kp bP ni ns
    have G2 := ok_dropW F2 W BT I0 nsu gC GP (glo 4 "place_in" rfl) FP.kp bP ni ns len
    have G3 := ok_size (w := w) (base := base) F3 W len
    have G4 := ok_end F4 W G3 (mth_ 43 "size" rfl) b3
    have G5 := ok_gvn (w := w) (base := base) F5 W len
    have G6 := ok_told F6 W len G3 (mth_ 43 "size" rfl) b3 G4 (mth_ 44 "end_value" rfl) b4 G5 (mth_ 45 "given_value" rfl) b5
    have Gc := ok_cell (P := thePr) (w := w) (base := base) Fc len
    have Gd := ok_dig Fd Gc (glo 9 "_law_cell" rfl) Fc.kp bc (fre 29 "int" rfl) (fre 28 "range" rfl)
    have Gw := ok_draw (P := thePr) (w := w) (base := base) Fw len (fre 29 "int" rfl)
    have Gs := ok_same (P := thePr) (w := w) (base := base) Fs (fre 31 "repr" rfl)
    have Gv := ok_val (P := thePr) (w := w) (base := base) Fv Fr br (glo 13 "_law_rank" rfl) ni ns (fre 22 "sorted" rfl) (fre 27 "set" rfl) (fre 26 "sum" rfl) len
    have Gf := ok_ref Ff W BT gC G1 (mth_ 41 "add" rfl) b1 G2 (mth_ 42 "drop" rfl) b2
    have Mk_ := He.mkr_ok (c.fact 34 (f := .mkr "Window") rfl)
    have Gm := ok_made Fm BT gC (glo 5 "Window" rfl) Mk_ G0 b0
    have Gn := ok_drawn Fn Gw (glo 11 "_law_draw" rfl) Fw.kp bw
    exact ok_law Fl W Gd (glo 10 "_law_digits" rfl) Fd.kp bd Gw (glo 11 "_law_draw" rfl) Fw.kp bw Gn (glo 17 "_law_drawn" rfl) Fn.kp bn Gv (glo 14 "_law_of_values" rfl) Fv.kp bv Gs (glo 12 "_law_same" rfl) Fs.kp bs
      Gf (glo 15 "_law_refused" rfl) Ff.kp bf Gm (glo 16 "_law_made" rfl) Fm.kp bm Mk_ G0 b0 (glo 5 "Window" rfl) G6 (mth_ 46 "told" rfl) b6 G3 (mth_ 43 "size" rfl) b3 GA (glo 3 "aggregate" rfl) FA.kp bA len (fre 28 "range" rfl) (fre 30 "list" rfl)
end K13
set_option Elab.async false
set_option linter.all false
set_option maxRecDepth 100000
set_option maxHeartbeats 0
open PySem PySem.W PySem.Calls PyProof.Rows
theorem PySem.Challenge.cw_windowtable_k13_windows_told_holds : PySem.Challenge.rw_windowtable_k13_windows_told.Holds := by
  w_on; o_law
  refine HandSHeadRun.head_any (r := K13.R) (q := view K13.R.prog [24]) (H := K13.hk) (ob := K13.ob) (M := 3000) (loose := K13.looseN) (d := HandSHeadRun.topDef K13.R.prog 24) (kwd := []) K13.ob_eq
    (by kernel_rfl) (fun s => by kernel_rfl) K13.run (by kernel_rfl) (by kernel_rfl) (by kernel_rfl) (by rfl) (by first | assumption | decide +kernel) (by decide +kernel) ⟨rfl, rfl, rfl, rfl, rfl, by decide +kernel⟩ ?hw ?hc
  case hw => w_witness2
  case hc =>
    refine LamX.walk_ofTsE (l := PySem.Challenge.rw_windowtable_k13_windows_told) (n := 63) (k := 6) (x := "_law_script") (CX := fun _ => L2.CX0) rfl (by decide) (by kernel_rfl) ⟨rfl, by decide, by decide⟩ ?F (fun _ _ _ _ _ z => z)
    intro w mg fa h Y G hmg0
    obtain ⟨K, KX, c⟩ := Y
    have hmg : mg ("law" : PySem.Str) = some (.ref fa) := by
      have e : (HandSHeadRun.topDef K13.R.prog 24).name = ("law" : PySem.Str) := by kernel_rfl
      rw [← e]
      exact hmg0
    exact ⟨K, KX, K13.all_ok KX G hmg c⟩
