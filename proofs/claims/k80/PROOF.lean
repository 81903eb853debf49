import PyProof.Rows.All
import PySem.Challenge.RW_neargaps_k80_whole_kept_notes_by_tables
import Wide.All
import OpenK.AllK
import Wide.FinOn
import KE.KStateDown
import HandS.ForMost
import HandS.Defaults
import HandS.Property
import HandS.ExcInit
import HandS.Head0
import HandS.Head1
import HandS.Head2
import HandS.HeadEnd
import HandS.HeadHook1
import HandS.HeadHook2
import HandS.HeadHook3
import HandS.HeadHook4
import HandS.HeadNt
import HandS.HeadWalk
import PyProof.ReprDict
import PyProof.StrLawsRepr
import HandS.DictComp
import HandS.Conv
import HandS.ClsMeth
import HandS.Style
import HandS.RaiseMore
import HandS.ListItems
import HandS.WordsDict
import HandS.OwnEq
import HandS.Words
import HandS.WideBits
import HandS.Wide
import HandS.IsInst
import KE.KOpsOwn
import KE.KFmtOwn
import HandS.Lambda
import HandS.FStr
import HandS.FStrTup
import PyProof.ReprNest
import HandS.Set
import HandS.SetFor
import HandS.Strs
import HandS.Iter
import KE.SortData
import HandS.SortKw
import KE.SortKeyHeap
import HandS.Dict
import KE.KEqNest
import KE.KDictPairs
import KE.KDictWalk
import PyProof.Rows.SortShellAny
import HandS.TupMul
import PyProof.FactsLen
import HandS.GenList
import PyProof.Rows.StrMeet
import KE.GoesEnumKw
import HandS.Zip
import PyProof.ZipIter
import PyProof.ReprLen
import PyProof.FitsInt

set_option Elab.async false
set_option linter.all false
set_option maxRecDepth 100000
set_option maxHeartbeats 2000000
/-! what the top has left: defs at any address, a list of truth values, empty code tables -/
namespace NG
open PySem PySem.Spec PyProof.Rows L2 He
abbrev Fg := PySem.W.Frag
/-- what is told of an object's references: a def's code and defaults, a class's own dict, a dict's values, a property's parts, a tuple's items -/
def refsN (o : Obj) : List Addr := match o.data with
  | .func fd => refV fd.code ++ (refV fd.defaults ++ refV fd.kwdefaults)
  | .cls cd => [cd.ns]
  | .dict es _ => es.toList.flatMap fun e => refV e.val
  | .seq its _ => its.toList.flatMap refV
  | .fields vs => (match o.cls with
    | .type "property" => vs.toList.flatMap refV
    | .type "staticmethod" => vs.toList.flatMap refV
    | .type "classmethod" => vs.toList.flatMap refV
    | _ => [])
  | _ => []
def nextN (g : Addr → Option Obj) (as : List Addr) : List Addr := as.flatMap fun a => match g a with
  | some o => refsN o
  | none => []
/-- what the module's names reach, level by level -/
def reachN (g : Addr → Option Obj) : Nat → List Addr → List Addr
  | 0, as => as
  | n + 1, as => as ++ reachN g n (nextN g as)
/-- the part of the heap that is told -/
def frN (g : Addr → Option Obj) (n : Nat) : Fg := frT g (reachN g n [mainGlobals] ++ [cStatics])
abbrev AlN : Type := Bool × List He5.FnW
structure Says (fn : List He5.DefA) (tf : List Defn) (ex : Fg → List Bool) (h : Heap) (K : Fg) : Prop where
  ok : ∀ d ∈ fn, d.ok K = true
  eq : fn.map (fun d => He5.fnA K (d.at_ K)) = fn.map He5.DefA.val
  ex : ∀ b ∈ ex K, b = true
  hd : ∀ p ∈ tf, PySem.W.codeHdIn K (cT K p).1 (cT K p).2 = true
  out : ∀ p ∈ tf, K.lookup (cT K p).2 = none
  empty : ∀ p ∈ tf, h.get? (cT K p).2 = some { cls := .none, data := .fields #[] }
def obsN (n : Nat) (fn : List He5.DefA) (tf : List Defn) (ex : Fg → List Bool) (g : Addr → Option Obj) : AlN :=
  ((fn.all fun d => d.ok (frN g n)) && ((ex (frN g n)).all id && tabsB g tf (frN g n)), fn.map fun d => He5.fnA (frN g n) (d.at_ (frN g n)))
def valN (fn : List He5.DefA) : AlN := (true, fn.map He5.DefA.val)
theorem says_of {n : Nat} {fn : List He5.DefA} {tf : List Defn} {ex : Fg → List Bool} {h : Heap} (e : obsN n fn tf ex h.get? = valN fn) : Says fn tf ex h (frN h.get? n) := by
  have e1 := congrArg Prod.fst e
  have e2 := congrArg Prod.snd e
  obtain ⟨a1, a2⟩ := Bool.and_eq_true_iff.mp (show (_ && _) = true from e1)
  obtain ⟨a3, a4⟩ := Bool.and_eq_true_iff.mp a2
  refine ⟨List.all_eq_true.mp a1, e2, fun b hb => List.all_eq_true.mp a3 b hb, ?_, ?_, ?_⟩
  all_goals
    intro p hp
    have z := List.all_eq_true.mp a4 p hp
    obtain ⟨z1, z2⟩ := Bool.and_eq_true_iff.mp z
  · exact z1
  · cases q : h.get? (cT (frN h.get? n) p).2 with
    | none => rw [q] at z2; cases z2
    | some o => rw [q] at z2; exact frT_none q z2
  · cases q : h.get? (cT (frN h.get? n) p).2 with
    | none => rw [q] at z2; cases z2
    | some o => rw [q] at z2; rw [emptyTab_eq z2]
def hookN (n : Nat) (fn : List He5.DefA) (tf : List Defn) (ex : Fg → List Bool) : PySem.W.Hook where
  α := AlN
  obs := fun s => obsN n fn tf ex s.heap.get?
  val := fun _ => valN fn
  says := fun _ h => ∃ K : Fg, K.In h ∧ Says fn tf ex h K
  of := fun _ _ e => ⟨_, frT_in, says_of e⟩
  keeps := fun _ _ _ ⟨K, hK, c⟩ k => ⟨K, PySem.W.Frag.In.keeps hK k, ⟨c.ok, c.eq, c.ex, c.hd, c.out, fun p hp => k _ _ (c.empty p hp)⟩⟩
theorem obsN_eq {n : Nat} {fn : List He5.DefA} {tf : List Defn} {ex : Fg → List Bool} {g : Addr → Option Obj} {s : Shared} (h : ∀ a, g a = s.heap.get? a) : obsN n fn tf ex g = (hookN n fn tf ex).obs s := by
  have e : g = s.heap.get? := funext h
  rw [e]
  rfl
/-! the top's run in parts: each part looks at some of the facts -/
def obG (n : Nat) (fn : List He5.DefA) (tf : List Defn) (ex : Fg → List Bool) (s : PySem.W.SharedT) : AlN := obsN n fn tf ex (HandSHeadRun.getT s)
theorem obsN_join {n : Nat} {f1 f2 : List He5.DefA} {tf : List Defn} {e1 e2 : Fg → List Bool} {g : Addr → Option Obj} (h1 : obsN n f1 tf e1 g = valN f1) (h2 : obsN n f2 tf e2 g = valN f2) : obsN n (f1 ++ f2) tf (fun K => e1 K ++ e2 K) g = valN (f1 ++ f2) := by
  have a1 := congrArg Prod.fst h1
  have a2 := congrArg Prod.fst h2
  have b1 := congrArg Prod.snd h1
  have b2 := congrArg Prod.snd h2
  obtain ⟨c1, d1⟩ := Bool.and_eq_true_iff.mp (show (_ && _) = true from a1)
  obtain ⟨c2, d2⟩ := Bool.and_eq_true_iff.mp (show (_ && _) = true from a2)
  obtain ⟨x1, y1⟩ := Bool.and_eq_true_iff.mp d1
  obtain ⟨x2, y2⟩ := Bool.and_eq_true_iff.mp d2
  refine Prod.ext ?_ ?_
  · show (((f1 ++ f2).all fun d => d.ok (frN g n)) && ((e1 (frN g n) ++ e2 (frN g n)).all id && tabsB g tf (frN g n))) = true
    rw [List.all_append, List.all_append, c1, c2, x1, x2, y1]
    rfl
  · show (f1 ++ f2).map (fun d => He5.fnA (frN g n) (d.at_ (frN g n))) = (f1 ++ f2).map He5.DefA.val
    rw [List.map_append, List.map_append]
    exact congr (congrArg _ b1) b2
theorem runEq_join {r : PySem.W.OpenRow} {q : Program} {n M : Nat} {loose : List PySem.Str} {f1 f2 : List He5.DefA} {tf : List Defn} {e1 e2 : Fg → List Bool} {w : World} (h1 : HandSHeadRun.RunEq r q (hookN n f1 tf e1) (obG n f1 tf e1) M loose w) (h2 : HandSHeadRun.RunEq r q (hookN n f2 tf e2) (obG n f2 tf e2) M loose w) :
    HandSHeadRun.RunEq r q (hookN n (f1 ++ f2) tf fun K => e1 K ++ e2 K) (obG n (f1 ++ f2) tf fun K => e1 K ++ e2 K) M loose w := by
  intro os
  have a := h1 os
  have b := h2 os
  cases e : HandSHeadRun.endF (HandSHeadRun.stepQ (HandSHeadRun.denQ HandSHeadRun.tabQ) r.prog w) M r.prog w os with
  | none => rw [e] at a; exact nomatch a
  | some s =>
    rw [e] at a b
    have a' : (_, _, _) = (_, _, _) := Option.some.inj a
    have b' : (_, _, _) = (_, _, _) := Option.some.inj b
    obtain ⟨p1, p2⟩ := Prod.mk.inj a'
    obtain ⟨p3, p4⟩ := Prod.mk.inj p2
    obtain ⟨_, q2⟩ := Prod.mk.inj b'
    obtain ⟨_, q4⟩ := Prod.mk.inj q2
    show some (_, _, _) = some (_, _, _)
    rw [p1, p3]
    exact congrArg some (Prod.ext rfl (Prod.ext rfl (obsN_join p4 q4)))
theorem Says.fd {fn : List He5.DefA} {tf : List Defn} {ex : Fg → List Bool} {h : Heap} {K : Fg} (c : Says fn tf ex h K) (i : Nat) {d : He5.DefA} (hi : fn[i]? = some d) :
    ∃ fd, FunD K d.name d.qual d.params d.body d.scope (d.dvs K) (d.kws K) (d.at_ K) fd := by
  have e := congrArg (fun l => l[i]?) c.eq
  simp only [List.getElem?_map, hi, Option.map_some] at e
  exact He5.DefA.funD (Option.some.inj e) (c.ok d (List.mem_of_getElem? hi))
theorem Says.at {fn : List He5.DefA} {tf : List Defn} {ex : Fg → List Bool} {h : Heap} {K : Fg} (c : Says fn tf ex h K) (i : Nat) {b : Bool} (hi : (ex K)[i]? = some b) : b = true :=
  c.ex b (List.mem_of_getElem? hi)
/-- the getter of a property -/
def propG (K : Fg) (C : Addr) (f : Str) : Addr := match PySem.W.recIn K (ma K C f) "property" with
  | some (.ref g :: _) => g
  | _ => 0
/-! truth values of facts -/
def bGet (K : Fg) (t : Value) (x : Str) (r : Option (Option Value)) : Bool := eqO (PySem.W.findIn K t x) r
def bSub (K : Fg) (t u : Value) (b : Bool) : Bool := decide (PySem.W.subIn K t u = some b)
def bKit (K : Fg) (t u : Value) (b : Bool) : Bool := decide (PySem.W.kitOne K t u = some b)
def bProp (K : Fg) (C : Addr) (f : Str) : Bool := eqO (PySem.W.findIn K (.ref C) f) (some (some (.ref (ma K C f)))) && (eqO (PySem.W.specialIn K (.ref (ma K C f)) "__get__") (some (some (.builtin "property.__get__"))) &&
  (decide (PySem.W.takesIn K (.ref (ma K C f)) = some true) && (match PySem.W.recIn K (ma K C f) "property" with
  | some (.ref _ :: _) => true
  | _ => false)))
theorem bProp_ok {K : Fg} {C : Addr} {f : Str} (h : bProp K C f = true) : PropOf K C f (ma K C f) (propG K C f) := by
  unfold bProp at h
  obtain ⟨h1, h⟩ := Bool.and_eq_true_iff.mp h
  obtain ⟨h2, h⟩ := Bool.and_eq_true_iff.mp h
  obtain ⟨h3, h4⟩ := Bool.and_eq_true_iff.mp h
  refine ⟨eqO_ok h1, eqO_ok h2, of_decide_eq_true h3, ?_⟩
  unfold propG
  cases q : PySem.W.recIn K (ma K C f) "property" with
  | none => rw [q] at h4; cases h4
  | some l =>
    rw [q] at h4
    cases l with
    | nil => cases h4
    | cons a r =>
      cases a with
      | ref g => exact ⟨r, rfl⟩
      | _ => cases h4
/-- an exception class over ValueError, by a chain of own classes -/
def bExc (K : Fg) (C : Addr) : Bool := (match K.lookup C with
  | some ⟨.type "type", _, .cls cd, sl⟩ => (match cd.mro, sl.toList with
    | .ref C' :: bm, [_, _, _, _, some (.builtin n), _] => C' == C && n == "ValueError.__new__" && !cd.hasDel && cd.hasDict && PySem.HandSPX.refsVE bm
    | _, _ => false)
  | _ => false) && (eqO (PySem.W.findIn K (.ref C) "__setattr__") (some (some (.builtin "object.__setattr__"))) && (decide (PySem.W.subIn K (.ref C) (.type "BaseException") = some true) &&
    (decide (PySem.W.typeIn K (.ref C) = some (.type "type")) && PySem.W.keepIn K (.ref C))))
end NG
namespace NG
open PySem PySem.Spec PyProof.Rows L2 He
theorem bExc_ok {K : Fg} {C : Addr} (h : bExc K C = true) : OexC K C := by
  unfold bExc at h
  obtain ⟨h1, h⟩ := Bool.and_eq_true_iff.mp h
  obtain ⟨h2, h⟩ := Bool.and_eq_true_iff.mp h
  obtain ⟨h3, h⟩ := Bool.and_eq_true_iff.mp h
  obtain ⟨h4, h5⟩ := Bool.and_eq_true_iff.mp h
  refine ⟨?_, eqO_ok h2, of_decide_eq_true h3, of_decide_eq_true h4, h5⟩
  split at h1
  · next dd cd sl ho =>
    split at h1
    · next C' bm k0 k1 k2 k3 n k5 hm hs =>
      simp only [Bool.and_eq_true, beq_iff_eq, Bool.not_eq_true'] at h1
      obtain ⟨⟨⟨⟨rfl, rfl⟩, hdel⟩, hdict⟩, hv⟩ := h1
      obtain ⟨nm, bs, mro, ns, qn, hd, sn, sub, ab, col, del⟩ := cd
      dsimp only at hm hdel hdict
      subst hm hdel hdict
      obtain ⟨l⟩ := sl
      dsimp only at hs
      subst hs
      exact ⟨_, _, _, _, _, _, _, _, _, _, _, _, _, _, _, ho, hv⟩
    · cases h1
  · cases h1
/-- Base.__init__ read off the class -/
def bBase (K : Fg) (B : Addr) : Bool := eqO (PySem.W.specialIn K (.ref B) "__getattribute__") (some (some (.builtin "type.__getattribute__"))) && (PySem.W.readsIn K B (.type "type") &&
  (match PySem.W.findCls K (.ref B) (.type "type") "__init__" with
  | some (.val (.builtin x)) => decide (x = "ValueError.__init__")
  | _ => false))
structure BaseC (K : Fg) (B : Addr) : Prop where
  sp : PySem.W.specialIn K (.ref B) "__getattribute__" = some (some (.builtin "type.__getattribute__"))
  rd : PySem.W.readsIn K B (.type "type") = true
  fc : PySem.W.findCls K (.ref B) (.type "type") "__init__" = some (.val (.builtin "ValueError.__init__"))
theorem bBase_ok {K : Fg} {B : Addr} (h : bBase K B = true) : BaseC K B := by
  unfold bBase at h
  obtain ⟨h1, h⟩ := Bool.and_eq_true_iff.mp h
  obtain ⟨h2, h3⟩ := Bool.and_eq_true_iff.mp h
  refine ⟨eqO_ok h1, h2, ?_⟩
  split at h3
  · next x e => rw [e, of_decide_eq_true h3]
  · cases h3
end NG
namespace NG
open PySem PySem.Spec PyProof.Rows L2 He
/-- type(x) is C, for instances of C -/
structure InsT (K : Fg) (C : Addr) : Prop where
  cl : Cls K C
  ha : PySem.W.findIn K (.ref C) "__class__" = some (some (.builtin "object.__class__"))
  hn : PySem.W.specialIn K (.builtin "object.__class__") "__get__" = some (some (.builtin "getset_descriptor.__get__"))
  ht : PySem.W.takesIn K (.builtin "object.__class__") = some true
  hm : PySem.W.mroIn K C (.type "object") = some true
def bTy (K : Fg) (C : Str) : Bool := (Fa.cls C).ok K && (eqO (PySem.W.findIn K (.ref (ga K C)) "__class__") (some (some (.builtin "object.__class__"))) &&
  (eqO (PySem.W.specialIn K (.builtin "object.__class__") "__get__") (some (some (.builtin "getset_descriptor.__get__"))) && (decide (PySem.W.takesIn K (.builtin "object.__class__") = some true) &&
    decide (PySem.W.mroIn K (ga K C) (.type "object") = some true))))
theorem bTy_ok {K : Fg} {C : Str} (h : bTy K C = true) : InsT K (ga K C) := by
  unfold bTy at h
  obtain ⟨h1, h⟩ := Bool.and_eq_true_iff.mp h
  obtain ⟨h2, h⟩ := Bool.and_eq_true_iff.mp h
  obtain ⟨h3, h⟩ := Bool.and_eq_true_iff.mp h
  obtain ⟨h4, h5⟩ := Bool.and_eq_true_iff.mp h
  exact ⟨cls_ok h1, eqO_ok h2, eqO_ok h3, of_decide_eq_true h4, of_decide_eq_true h5⟩
theorem InsT.ty {K : Fg} {C : Addr} (t : InsT K C) {H : Hp} {a dx : Addr} {fs : List (Str × V)} (e : H a = some (.ins C dx fs)) : TyOf K H (.ref a) (.ref C) := .ins e t.cl t.ha t.hn t.ht t.hm
end NG
namespace NG
open PySem PySem.Spec PyProof.Rows L2 He
/-- the def of a classmethod -/
def cmP (K : Fg) (C : Addr) (m : Str) : Addr := match PySem.W.findCls K (.ref C) (.type "type") m with
  | some (.get _ (.ref p) _ _) => p
  | _ => 0
def cmG (K : Fg) (C : Addr) (m : Str) : Addr := match PySem.W.recIn K (cmP K C m) "classmethod" with
  | some (.ref g :: _) => g
  | _ => 0
def bCMet (K : Fg) (C : Addr) (m : Str) : Bool := PySem.W.readsIn K C (.type "type") && (eqO (PySem.W.specialIn K (.ref C) "__getattribute__") (some (some (.builtin "type.__getattribute__"))) &&
  ((match PySem.W.findCls K (.ref C) (.type "type") m with
    | some (.get g (.ref _) v c) => decide (g = .builtin "classmethod.__get__") && (decide (v = .none) && decide (c = .ref C))
    | _ => false) && ((match PySem.W.recIn K (cmP K C m) "classmethod" with
    | some (.ref _ :: _) => true
    | _ => false) && PySem.W.fnIn K (cmG K C m))))
structure CMetOk (K : Fg) (C : Addr) (m : Str) : Prop where
  rd : PySem.W.readsIn K C (.type "type") = true
  ga : PySem.W.specialIn K (.ref C) "__getattribute__" = some (some (.builtin "type.__getattribute__"))
  at_ : PySem.W.findCls K (.ref C) (.type "type") m = some (.get (.builtin "classmethod.__get__") (.ref (cmP K C m)) .none (.ref C))
  rc : ∃ rest, PySem.W.recIn K (cmP K C m) "classmethod" = some (.ref (cmG K C m) :: rest)
  fi : PySem.W.fnIn K (cmG K C m) = true
theorem bCMet_ok {K : Fg} {C : Addr} {m : Str} (h : bCMet K C m = true) : CMetOk K C m := by
  unfold bCMet at h
  obtain ⟨h1, h⟩ := Bool.and_eq_true_iff.mp h
  obtain ⟨h2, h⟩ := Bool.and_eq_true_iff.mp h
  obtain ⟨h3, h⟩ := Bool.and_eq_true_iff.mp h
  obtain ⟨h4, h5⟩ := Bool.and_eq_true_iff.mp h
  refine ⟨h1, eqO_ok h2, ?_, ?_, h5⟩
  · unfold cmP
    split at h3
    · next g p v c e =>
      simp only [Bool.and_eq_true, decide_eq_true_eq] at h3
      obtain ⟨rfl, rfl, rfl⟩ := h3
      rw [e]
    · cases h3
  · unfold cmG
    split at h4
    · next g r e => rw [e]; exact ⟨r, rfl⟩
    · cases h4
end NG

set_option Elab.async false
set_option linter.all false
set_option maxRecDepth 100000
/-! the places of the text -/
namespace NG
open PySem L2
def top (i : Nat) : Stmt := PySem.Challenge.pw_neargaps_k80_whole_kept_notes_by_tables.main.body.getD i (.Pass ⟨0, 0, 0, 0⟩)
abbrev f__wall : Stmt := top 0
abbrev m_InvalidNumber_init : Stmt := inClass (top 3) 0
abbrev m_InvalidName_init : Stmt := inClass (top 4) 0
abbrev m_InvalidTable_init : Stmt := inClass (top 5) 0
abbrev m_InvalidTerms_init : Stmt := inClass (top 6) 0
abbrev m_InvalidQuestion_init : Stmt := inClass (top 7) 0
abbrev m_InvalidSum_init : Stmt := inClass (top 8) 0
abbrev m_InvalidSeeds_init : Stmt := inClass (top 9) 0
abbrev m_InvalidWeight_init : Stmt := inClass (top 10) 0
abbrev m_InvalidKeys_init : Stmt := inClass (top 11) 0
abbrev m_InvalidRule_init : Stmt := inClass (top 12) 0
abbrev m_InvalidKept_init : Stmt := inClass (top 13) 0
abbrev m_TooMany_init : Stmt := inClass (top 14) 0
abbrev m_UnknownSeed_init : Stmt := inClass (top 16) 0
abbrev m_DividedByZero_init : Stmt := inClass (top 18) 0
abbrev f_is_integer : Stmt := top 20
abbrev f_is_number : Stmt := top 21
abbrev f_want_number : Stmt := top 22
abbrev f_as_ratio : Stmt := top 23
abbrev f_common_divisor_ratios : Stmt := top 24
abbrev m_Ratio_init : Stmt := inClass (top 26) 0
abbrev m_Ratio_total : Stmt := inClass (top 26) 1
abbrev m_Ratio_top : Stmt := inClass (top 26) 2
abbrev m_Ratio_bottom : Stmt := inClass (top 26) 3
abbrev m_Ratio_sign : Stmt := inClass (top 26) 4
abbrev m_Ratio_over : Stmt := inClass (top 26) 5
abbrev m_Ratio_is_below : Stmt := inClass (top 26) 6
abbrev m_Ratio_add : Stmt := inClass (top 26) 7
abbrev m_Ratio_sub : Stmt := inClass (top 26) 8
abbrev m_Ratio_mul : Stmt := inClass (top 26) 9
abbrev m_Ratio_neg : Stmt := inClass (top 26) 10
abbrev m_Ratio_eq : Stmt := inClass (top 26) 11
abbrev m_Ratio_str : Stmt := inClass (top 26) 12
abbrev m_Ratio_repr : Stmt := inClass (top 26) 13
abbrev f_is_key : Stmt := top 31
abbrev f_is_list : Stmt := top 32
abbrev f_is_row : Stmt := top 33
abbrev f_kept_row : Stmt := top 34
abbrev f_want_table : Stmt := top 35
abbrev m_Table_init : Stmt := inClass (top 36) 0
abbrev m_Table_is_plain : Stmt := inClass (top 36) 1
abbrev m_Table_at : Stmt := inClass (top 36) 2
abbrev m_Table_used_keys : Stmt := inClass (top 36) 3
abbrev m_Table_counts : Stmt := inClass (top 36) 4
abbrev m_Table_times : Stmt := inClass (top 36) 5
abbrev m_Table_renamed : Stmt := inClass (top 36) 6
abbrev m_Table_add : Stmt := inClass (top 36) 7
abbrev m_Table_sub : Stmt := inClass (top 36) 8
abbrev m_Table_neg : Stmt := inClass (top 36) 9
abbrev m_Table_len : Stmt := inClass (top 36) 10
abbrev m_Table_contains : Stmt := inClass (top 36) 11
abbrev m_Table_eq : Stmt := inClass (top 36) 12
abbrev m_Table_repr : Stmt := inClass (top 36) 13
abbrev f_product_key : Stmt := top 38
abbrev f_are_keys : Stmt := top 39
abbrev f_is_term : Stmt := top 40
abbrev f_want_terms : Stmt := top 41
abbrev f_summed : Stmt := top 42
abbrev f_in_order : Stmt := top 43
abbrev f_told_terms : Stmt := top 44
abbrev f_multiplied : Stmt := top 45
abbrev f_term_text : Stmt := top 46
abbrev f_question_text : Stmt := top 47
abbrev f_as_question : Stmt := top 48
abbrev m_Question_init : Stmt := inClass (top 49) 0
abbrev m_Question_of_key : Stmt := inClass (top 49) 1
abbrev m_Question_constant : Stmt := inClass (top 49) 2
abbrev m_Question_with_weights : Stmt := inClass (top 49) 3
abbrev m_Question_degree : Stmt := inClass (top 49) 4
abbrev m_Question_terms : Stmt := inClass (top 49) 5
abbrev m_Question_used_keys : Stmt := inClass (top 49) 6
abbrev m_Question_weight : Stmt := inClass (top 49) 7
abbrev m_Question_parts : Stmt := inClass (top 49) 8
abbrev m_Question_at : Stmt := inClass (top 49) 9
abbrev m_Question_power : Stmt := inClass (top 49) 10
abbrev m_Question_put : Stmt := inClass (top 49) 11
abbrev m_Question_moved : Stmt := inClass (top 49) 12
abbrev m_Question_renamed : Stmt := inClass (top 49) 13
abbrev m_Question_add : Stmt := inClass (top 49) 14
abbrev m_Question_sub : Stmt := inClass (top 49) 15
abbrev m_Question_mul : Stmt := inClass (top 49) 16
abbrev m_Question_neg : Stmt := inClass (top 49) 17
abbrev m_Question_eq : Stmt := inClass (top 49) 18
abbrev m_Question_str : Stmt := inClass (top 49) 19
abbrev m_Question_repr : Stmt := inClass (top 49) 20
abbrev f_is_formula : Stmt := top 52
abbrev f_is_formulas : Stmt := top 53
abbrev m_Rule_init : Stmt := inClass (top 54) 0
abbrev m_Rule_degree : Stmt := inClass (top 54) 1
abbrev m_Rule_formula : Stmt := inClass (top 54) 2
abbrev m_Rule_seeds : Stmt := inClass (top 54) 3
abbrev m_Rule_fits : Stmt := inClass (top 54) 4
abbrev m_Rule_add : Stmt := inClass (top 54) 5
abbrev m_Rule_sub : Stmt := inClass (top 54) 6
abbrev m_Rule_mul : Stmt := inClass (top 54) 7
abbrev m_Rule_eq : Stmt := inClass (top 54) 8
abbrev m_Rule_repr : Stmt := inClass (top 54) 9
abbrev f_has_places : Stmt := top 55
abbrev m_Kept_init : Stmt := inClass (top 57) 0
abbrev m_Kept_of_table : Stmt := inClass (top 57) 1
abbrev m_Kept_average : Stmt := inClass (top 57) 2
abbrev m_Kept_sketch : Stmt := inClass (top 57) 3
abbrev m_Kept_seed : Stmt := inClass (top 57) 4
abbrev m_Kept_shown : Stmt := inClass (top 57) 5
abbrev m_Kept_rule : Stmt := inClass (top 57) 6
abbrev m_Kept_use : Stmt := inClass (top 57) 7
abbrev m_Kept_put_more : Stmt := inClass (top 57) 8
abbrev m_Kept_change : Stmt := inClass (top 57) 9
abbrev m_Kept_add : Stmt := inClass (top 57) 10
abbrev m_Kept_take_in : Stmt := inClass (top 57) 11
abbrev m_Kept_answer : Stmt := inClass (top 57) 12
abbrev m_Kept_copy : Stmt := inClass (top 57) 13
abbrev m_Kept_trial : Stmt := inClass (top 57) 14
abbrev m_Kept_eq : Stmt := inClass (top 57) 15
abbrev m_Kept_repr : Stmt := inClass (top 57) 16
abbrev f_common_divisor : Stmt := top 60
abbrev f_first_place : Stmt := top 62
abbrev f_lowest : Stmt := top 63
abbrev f_cleared : Stmt := top 64
abbrev f_reduced_integers : Stmt := top 65
abbrev f_in_integers : Stmt := top 66
abbrev f_in_ratios : Stmt := top 67
abbrev f_question_of : Stmt := top 68
abbrev m_Note_init : Stmt := inClass (top 69) 0
abbrev m_Note_of_keys : Stmt := inClass (top 69) 1
abbrev m_Note_sums : Stmt := inClass (top 69) 2
abbrev m_Note_used_keys : Stmt := inClass (top 69) 3
abbrev m_Note_shows : Stmt := inClass (top 69) 4
abbrev m_Note_questions : Stmt := inClass (top 69) 5
abbrev m_Note_rows : Stmt := inClass (top 69) 6
abbrev m_Note_has : Stmt := inClass (top 69) 7
abbrev m_Note_worth_the_same : Stmt := inClass (top 69) 8
abbrev m_Note_add : Stmt := inClass (top 69) 9
abbrev m_Note_through : Stmt := inClass (top 69) 10
abbrev m_Note_renamed : Stmt := inClass (top 69) 11
abbrev m_Note_is_plain : Stmt := inClass (top 69) 12
abbrev m_Note_len : Stmt := inClass (top 69) 13
abbrev m_Note_eq : Stmt := inClass (top 69) 14
abbrev m_Note_repr : Stmt := inClass (top 69) 15
abbrev f_is_seed : Stmt := top 73
abbrev m_Sketch_init : Stmt := inClass (top 74) 0
abbrev m_Sketch_seeds : Stmt := inClass (top 74) 1
abbrev m_Sketch_used_keys : Stmt := inClass (top 74) 2
abbrev m_Sketch_want_seed : Stmt := inClass (top 74) 3
abbrev m_Sketch_weight : Stmt := inClass (top 74) 4
abbrev m_Sketch_note : Stmt := inClass (top 74) 5
abbrev m_Sketch_walk : Stmt := inClass (top 74) 6
abbrev m_Sketch_shows : Stmt := inClass (top 74) 7
abbrev m_Sketch_is_plain : Stmt := inClass (top 74) 8
abbrev m_Sketch_merged : Stmt := inClass (top 74) 9
abbrev m_Sketch_paired : Stmt := inClass (top 74) 10
abbrev m_Sketch_copies : Stmt := inClass (top 74) 11
abbrev m_Sketch_only : Stmt := inClass (top 74) 12
abbrev m_Sketch_through : Stmt := inClass (top 74) 13
abbrev m_Sketch_renamed : Stmt := inClass (top 74) 14
abbrev m_Sketch_len : Stmt := inClass (top 74) 15
abbrev m_Sketch_eq : Stmt := inClass (top 74) 16
abbrev m_Sketch_repr : Stmt := inClass (top 74) 17
abbrev f__law_rng : Stmt := top 76
abbrev f__law_draw : Stmt := top 77
abbrev f__law_choice : Stmt := top 78
abbrev f__law_names : Stmt := top 79
abbrev f__law_row_of : Stmt := top 80
abbrev f__law_model : Stmt := top 81
abbrev f__law_sketch : Stmt := top 82
abbrev f__law_shown : Stmt := top 83
abbrev f__law_added : Stmt := top 84
abbrev f__law_number : Stmt := top 85
abbrev f__law_table : Stmt := top 86
abbrev f__law_turned : Stmt := top 87
abbrev f__law_are_right : Stmt := top 88
abbrev f__law_right : Stmt := top 89
abbrev f_law : Stmt := top 90
end NG

set_option Elab.async false
set_option linter.all false
set_option maxRecDepth 100000
set_option maxHeartbeats 0
namespace NG
open PySem PySem.Spec PyProof.Rows L2 He
def d_f_is_integer : He5.DefA := ⟨fun K => fAd K ("is_integer", none), "is_integer", "is_integer", defArgs f_is_integer, defBody f_is_integer, defScope f_is_integer, [], []⟩
def d_f_is_number : He5.DefA := ⟨fun K => fAd K ("is_number", none), "is_number", "is_number", defArgs f_is_number, defBody f_is_number, defScope f_is_number, [], []⟩
def d_f_want_number : He5.DefA := ⟨fun K => fAd K ("want_number", none), "want_number", "want_number", defArgs f_want_number, defBody f_want_number, defScope f_want_number, [], []⟩
def d_f_as_ratio : He5.DefA := ⟨fun K => fAd K ("as_ratio", none), "as_ratio", "as_ratio", defArgs f_as_ratio, defBody f_as_ratio, defScope f_as_ratio, [], []⟩
def d_f_common_divisor_ratios : He5.DefA := ⟨fun K => fAd K ("common_divisor_ratios", none), "common_divisor", "common_divisor", defArgs f_common_divisor_ratios, defBody f_common_divisor_ratios, defScope f_common_divisor_ratios, [], []⟩
def d_m_Ratio_init : He5.DefA := ⟨fun K => fAd K ("Ratio", some "__init__"), "__init__", "Ratio.__init__", defArgs m_Ratio_init, defBody m_Ratio_init, defScope m_Ratio_init, [.int 1], []⟩
def d_m_Ratio_sign : He5.DefA := ⟨fun K => propG K (ga K "Ratio") "sign", "sign", "Ratio.sign", defArgs m_Ratio_sign, defBody m_Ratio_sign, defScope m_Ratio_sign, [], []⟩
def d_m_Ratio_add : He5.DefA := ⟨fun K => fAd K ("Ratio", some "__add__"), "__add__", "Ratio.__add__", defArgs m_Ratio_add, defBody m_Ratio_add, defScope m_Ratio_add, [], []⟩
def d_m_Ratio_eq : He5.DefA := ⟨fun K => fAd K ("Ratio", some "__eq__"), "__eq__", "Ratio.__eq__", defArgs m_Ratio_eq, defBody m_Ratio_eq, defScope m_Ratio_eq, [], []⟩
def d_f_is_key : He5.DefA := ⟨fun K => fAd K ("is_key", none), "is_key", "is_key", defArgs f_is_key, defBody f_is_key, defScope f_is_key, [], []⟩
def d_f_is_list : He5.DefA := ⟨fun K => fAd K ("is_list", none), "is_list", "is_list", defArgs f_is_list, defBody f_is_list, defScope f_is_list, [], []⟩
def d_f_is_row : He5.DefA := ⟨fun K => fAd K ("is_row", none), "is_row", "is_row", defArgs f_is_row, defBody f_is_row, defScope f_is_row, [], []⟩
def d_f_kept_row : He5.DefA := ⟨fun K => fAd K ("kept_row", none), "kept_row", "kept_row", defArgs f_kept_row, defBody f_kept_row, defScope f_kept_row, [], []⟩
def d_f_want_table : He5.DefA := ⟨fun K => fAd K ("want_table", none), "want_table", "want_table", defArgs f_want_table, defBody f_want_table, defScope f_want_table, [], []⟩
def d_m_Table_init : He5.DefA := ⟨fun K => fAd K ("Table", some "__init__"), "__init__", "Table.__init__", defArgs m_Table_init, defBody m_Table_init, defScope m_Table_init, [.non], []⟩
def d_m_Table_at : He5.DefA := ⟨fun K => fAd K ("Table", some "at"), "at", "Table.at", defArgs m_Table_at, defBody m_Table_at, defScope m_Table_at, [], []⟩
def d_m_Table_eq : He5.DefA := ⟨fun K => fAd K ("Table", some "__eq__"), "__eq__", "Table.__eq__", defArgs m_Table_eq, defBody m_Table_eq, defScope m_Table_eq, [], []⟩
def d_f_product_key : He5.DefA := ⟨fun K => fAd K ("product_key", none), "product_key", "product_key", defArgs f_product_key, defBody f_product_key, defScope f_product_key, [], []⟩
def d_f_are_keys : He5.DefA := ⟨fun K => fAd K ("are_keys", none), "are_keys", "are_keys", defArgs f_are_keys, defBody f_are_keys, defScope f_are_keys, [], []⟩
def d_f_is_term : He5.DefA := ⟨fun K => fAd K ("is_term", none), "is_term", "is_term", defArgs f_is_term, defBody f_is_term, defScope f_is_term, [], []⟩
def d_f_want_terms : He5.DefA := ⟨fun K => fAd K ("want_terms", none), "want_terms", "want_terms", defArgs f_want_terms, defBody f_want_terms, defScope f_want_terms, [], []⟩
def d_f_summed : He5.DefA := ⟨fun K => fAd K ("summed", none), "summed", "summed", defArgs f_summed, defBody f_summed, defScope f_summed, [], []⟩
def d_f_in_order : He5.DefA := ⟨fun K => fAd K ("in_order", none), "in_order", "in_order", defArgs f_in_order, defBody f_in_order, defScope f_in_order, [], []⟩
def d_f_term_text : He5.DefA := ⟨fun K => fAd K ("term_text", none), "term_text", "term_text", defArgs f_term_text, defBody f_term_text, defScope f_term_text, [], []⟩
def d_f_question_text : He5.DefA := ⟨fun K => fAd K ("question_text", none), "question_text", "question_text", defArgs f_question_text, defBody f_question_text, defScope f_question_text, [], []⟩
def d_m_Question_init : He5.DefA := ⟨fun K => fAd K ("Question", some "__init__"), "__init__", "Question.__init__", defArgs m_Question_init, defBody m_Question_init, defScope m_Question_init, [.adr (dflAt ("Question", some "__init__") 0)], []⟩
def d_m_Question_constant : He5.DefA := ⟨fun K => cmG K (ga K "Question") "constant", "constant", "Question.constant", defArgs m_Question_constant, defBody m_Question_constant, defScope m_Question_constant, [], []⟩
def d_m_Question_degree : He5.DefA := ⟨fun K => propG K (ga K "Question") "degree", "degree", "Question.degree", defArgs m_Question_degree, defBody m_Question_degree, defScope m_Question_degree, [], []⟩
def d_m_Question_used_keys : He5.DefA := ⟨fun K => fAd K ("Question", some "used_keys"), "used_keys", "Question.used_keys", defArgs m_Question_used_keys, defBody m_Question_used_keys, defScope m_Question_used_keys, [], []⟩
def d_m_Question_str : He5.DefA := ⟨fun K => fAd K ("Question", some "__str__"), "__str__", "Question.__str__", defArgs m_Question_str, defBody m_Question_str, defScope m_Question_str, [], []⟩
def d_f_is_formula : He5.DefA := ⟨fun K => fAd K ("is_formula", none), "is_formula", "is_formula", defArgs f_is_formula, defBody f_is_formula, defScope f_is_formula, [], []⟩
def d_f_is_formulas : He5.DefA := ⟨fun K => fAd K ("is_formulas", none), "is_formulas", "is_formulas", defArgs f_is_formulas, defBody f_is_formulas, defScope f_is_formulas, [], []⟩
def d_m_Rule_init : He5.DefA := ⟨fun K => fAd K ("Rule", some "__init__"), "__init__", "Rule.__init__", defArgs m_Rule_init, defBody m_Rule_init, defScope m_Rule_init, [], []⟩
def d_m_Rule_fits : He5.DefA := ⟨fun K => fAd K ("Rule", some "fits"), "fits", "Rule.fits", defArgs m_Rule_fits, defBody m_Rule_fits, defScope m_Rule_fits, [], []⟩
def d_m_Rule_repr : He5.DefA := ⟨fun K => fAd K ("Rule", some "__repr__"), "__repr__", "Rule.__repr__", defArgs m_Rule_repr, defBody m_Rule_repr, defScope m_Rule_repr, [], []⟩
def d_f_has_places : He5.DefA := ⟨fun K => fAd K ("has_places", none), "has_places", "has_places", defArgs f_has_places, defBody f_has_places, defScope f_has_places, [], []⟩
def d_m_Kept_init : He5.DefA := ⟨fun K => fAd K ("Kept", some "__init__"), "__init__", "Kept.__init__", defArgs m_Kept_init, defBody m_Kept_init, defScope m_Kept_init, [], []⟩
def d_m_Kept_sketch : He5.DefA := ⟨fun K => propG K (ga K "Kept") "sketch", "sketch", "Kept.sketch", defArgs m_Kept_sketch, defBody m_Kept_sketch, defScope m_Kept_sketch, [], []⟩
def d_m_Kept_seed : He5.DefA := ⟨fun K => propG K (ga K "Kept") "seed", "seed", "Kept.seed", defArgs m_Kept_seed, defBody m_Kept_seed, defScope m_Kept_seed, [], []⟩
def d_m_Kept_shown : He5.DefA := ⟨fun K => propG K (ga K "Kept") "shown", "shown", "Kept.shown", defArgs m_Kept_shown, defBody m_Kept_shown, defScope m_Kept_shown, [], []⟩
def d_m_Kept_rule : He5.DefA := ⟨fun K => propG K (ga K "Kept") "rule", "rule", "Kept.rule", defArgs m_Kept_rule, defBody m_Kept_rule, defScope m_Kept_rule, [], []⟩
def d_m_Kept_use : He5.DefA := ⟨fun K => fAd K ("Kept", some "use"), "use", "Kept.use", defArgs m_Kept_use, defBody m_Kept_use, defScope m_Kept_use, [], []⟩
def d_m_Kept_put_more : He5.DefA := ⟨fun K => fAd K ("Kept", some "put_more"), "put_more", "Kept.put_more", defArgs m_Kept_put_more, defBody m_Kept_put_more, defScope m_Kept_put_more, [], []⟩
def d_m_Kept_change : He5.DefA := ⟨fun K => fAd K ("Kept", some "change"), "change", "Kept.change", defArgs m_Kept_change, defBody m_Kept_change, defScope m_Kept_change, [], []⟩
def d_m_Kept_add : He5.DefA := ⟨fun K => fAd K ("Kept", some "add"), "add", "Kept.add", defArgs m_Kept_add, defBody m_Kept_add, defScope m_Kept_add, [], []⟩
def d_m_Kept_take_in : He5.DefA := ⟨fun K => fAd K ("Kept", some "take_in"), "take_in", "Kept.take_in", defArgs m_Kept_take_in, defBody m_Kept_take_in, defScope m_Kept_take_in, [], []⟩
def d_m_Kept_copy : He5.DefA := ⟨fun K => fAd K ("Kept", some "copy"), "copy", "Kept.copy", defArgs m_Kept_copy, defBody m_Kept_copy, defScope m_Kept_copy, [], []⟩
def d_m_Kept_eq : He5.DefA := ⟨fun K => fAd K ("Kept", some "__eq__"), "__eq__", "Kept.__eq__", defArgs m_Kept_eq, defBody m_Kept_eq, defScope m_Kept_eq, [], []⟩
def d_m_Note_init : He5.DefA := ⟨fun K => fAd K ("Note", some "__init__"), "__init__", "Note.__init__", defArgs m_Note_init, defBody m_Note_init, defScope m_Note_init, [], []⟩
def d_m_Note_used_keys : He5.DefA := ⟨fun K => fAd K ("Note", some "used_keys"), "used_keys", "Note.used_keys", defArgs m_Note_used_keys, defBody m_Note_used_keys, defScope m_Note_used_keys, [], []⟩
def d_m_Note_shows : He5.DefA := ⟨fun K => fAd K ("Note", some "shows"), "shows", "Note.shows", defArgs m_Note_shows, defBody m_Note_shows, defScope m_Note_shows, [], []⟩
def d_m_Note_len : He5.DefA := ⟨fun K => fAd K ("Note", some "__len__"), "__len__", "Note.__len__", defArgs m_Note_len, defBody m_Note_len, defScope m_Note_len, [], []⟩
def d_m_Note_eq : He5.DefA := ⟨fun K => fAd K ("Note", some "__eq__"), "__eq__", "Note.__eq__", defArgs m_Note_eq, defBody m_Note_eq, defScope m_Note_eq, [], []⟩
def d_f_is_seed : He5.DefA := ⟨fun K => fAd K ("is_seed", none), "is_seed", "is_seed", defArgs f_is_seed, defBody f_is_seed, defScope f_is_seed, [], []⟩
def d_m_Sketch_init : He5.DefA := ⟨fun K => fAd K ("Sketch", some "__init__"), "__init__", "Sketch.__init__", defArgs m_Sketch_init, defBody m_Sketch_init, defScope m_Sketch_init, [], []⟩
def d_m_Sketch_seeds : He5.DefA := ⟨fun K => fAd K ("Sketch", some "seeds"), "seeds", "Sketch.seeds", defArgs m_Sketch_seeds, defBody m_Sketch_seeds, defScope m_Sketch_seeds, [], []⟩
def d_m_Sketch_used_keys : He5.DefA := ⟨fun K => fAd K ("Sketch", some "used_keys"), "used_keys", "Sketch.used_keys", defArgs m_Sketch_used_keys, defBody m_Sketch_used_keys, defScope m_Sketch_used_keys, [], []⟩
def d_m_Sketch_want_seed : He5.DefA := ⟨fun K => fAd K ("Sketch", some "want_seed"), "want_seed", "Sketch.want_seed", defArgs m_Sketch_want_seed, defBody m_Sketch_want_seed, defScope m_Sketch_want_seed, [], []⟩
def d_m_Sketch_note : He5.DefA := ⟨fun K => fAd K ("Sketch", some "note"), "note", "Sketch.note", defArgs m_Sketch_note, defBody m_Sketch_note, defScope m_Sketch_note, [], []⟩
def d_m_Sketch_walk : He5.DefA := ⟨fun K => fAd K ("Sketch", some "walk"), "walk", "Sketch.walk", defArgs m_Sketch_walk, defBody m_Sketch_walk, defScope m_Sketch_walk, [], []⟩
def d_m_Sketch_shows : He5.DefA := ⟨fun K => fAd K ("Sketch", some "shows"), "shows", "Sketch.shows", defArgs m_Sketch_shows, defBody m_Sketch_shows, defScope m_Sketch_shows, [], []⟩
def d_m_Sketch_eq : He5.DefA := ⟨fun K => fAd K ("Sketch", some "__eq__"), "__eq__", "Sketch.__eq__", defArgs m_Sketch_eq, defBody m_Sketch_eq, defScope m_Sketch_eq, [], []⟩
def d_f__law_rng : He5.DefA := ⟨fun K => fAd K ("_law_rng", none), "_law_rng", "_law_rng", defArgs f__law_rng, defBody f__law_rng, defScope f__law_rng, [], []⟩
def d_f__law_draw : He5.DefA := ⟨fun K => fAd K ("_law_draw", none), "_law_draw", "_law_draw", defArgs f__law_draw, defBody f__law_draw, defScope f__law_draw, [], []⟩
def d_f__law_choice : He5.DefA := ⟨fun K => fAd K ("_law_choice", none), "_law_choice", "_law_choice", defArgs f__law_choice, defBody f__law_choice, defScope f__law_choice, [], []⟩
def d_f__law_names : He5.DefA := ⟨fun K => fAd K ("_law_names", none), "_law_names", "_law_names", defArgs f__law_names, defBody f__law_names, defScope f__law_names, [], []⟩
def d_f__law_row_of : He5.DefA := ⟨fun K => fAd K ("_law_row_of", none), "_law_row_of", "_law_row_of", defArgs f__law_row_of, defBody f__law_row_of, defScope f__law_row_of, [], []⟩
def d_f__law_model : He5.DefA := ⟨fun K => fAd K ("_law_model", none), "_law_model", "_law_model", defArgs f__law_model, defBody f__law_model, defScope f__law_model, [], []⟩
def d_f__law_sketch : He5.DefA := ⟨fun K => fAd K ("_law_sketch", none), "_law_sketch", "_law_sketch", defArgs f__law_sketch, defBody f__law_sketch, defScope f__law_sketch, [], []⟩
def d_f__law_shown : He5.DefA := ⟨fun K => fAd K ("_law_shown", none), "_law_shown", "_law_shown", defArgs f__law_shown, defBody f__law_shown, defScope f__law_shown, [], []⟩
def d_f__law_added : He5.DefA := ⟨fun K => fAd K ("_law_added", none), "_law_added", "_law_added", defArgs f__law_added, defBody f__law_added, defScope f__law_added, [], []⟩
def d_f__law_number : He5.DefA := ⟨fun K => fAd K ("_law_number", none), "_law_number", "_law_number", defArgs f__law_number, defBody f__law_number, defScope f__law_number, [], []⟩
def d_f__law_table : He5.DefA := ⟨fun K => fAd K ("_law_table", none), "_law_table", "_law_table", defArgs f__law_table, defBody f__law_table, defScope f__law_table, [], []⟩
def d_f__law_turned : He5.DefA := ⟨fun K => fAd K ("_law_turned", none), "_law_turned", "_law_turned", defArgs f__law_turned, defBody f__law_turned, defScope f__law_turned, [], []⟩
def d_f__law_are_right : He5.DefA := ⟨fun K => fAd K ("_law_are_right", none), "_law_are_right", "_law_are_right", defArgs f__law_are_right, defBody f__law_are_right, defScope f__law_are_right, [], []⟩
def d_f__law_right : He5.DefA := ⟨fun K => fAd K ("_law_right", none), "_law_right", "_law_right", defArgs f__law_right, defBody f__law_right, defScope f__law_right, [], []⟩
def d_f_law : He5.DefA := ⟨fun K => fAd K ("law", none), "law", "law", defArgs f_law, defBody f_law, defScope f_law, [], []⟩
def fns0 : List He5.DefA := [d_f_is_integer, d_f_is_number, d_f_want_number, d_f_as_ratio, d_f_common_divisor_ratios, d_m_Ratio_init, d_m_Ratio_sign, d_m_Ratio_add, d_m_Ratio_eq, d_f_is_key, d_f_is_list, d_f_is_row, d_f_kept_row, d_f_want_table, d_m_Table_init, d_m_Table_at, d_m_Table_eq, d_f_product_key, d_f_are_keys, d_f_is_term, d_f_want_terms, d_f_summed, d_f_in_order, d_f_term_text, d_f_question_text, d_m_Question_init, d_m_Question_constant, d_m_Question_degree, d_m_Question_used_keys, d_m_Question_str]
def fns1 : List He5.DefA := [d_f_is_formula, d_f_is_formulas, d_m_Rule_init, d_m_Rule_fits, d_m_Rule_repr, d_f_has_places, d_m_Kept_init, d_m_Kept_sketch, d_m_Kept_seed, d_m_Kept_shown, d_m_Kept_rule, d_m_Kept_use, d_m_Kept_put_more, d_m_Kept_change, d_m_Kept_add, d_m_Kept_take_in, d_m_Kept_copy, d_m_Kept_eq, d_m_Note_init, d_m_Note_used_keys, d_m_Note_shows, d_m_Note_len, d_m_Note_eq, d_f_is_seed, d_m_Sketch_init, d_m_Sketch_seeds, d_m_Sketch_used_keys, d_m_Sketch_want_seed, d_m_Sketch_note, d_m_Sketch_walk]
def fns2 : List He5.DefA := [d_m_Sketch_shows, d_m_Sketch_eq, d_f__law_rng, d_f__law_draw, d_f__law_choice, d_f__law_names, d_f__law_row_of, d_f__law_model, d_f__law_sketch, d_f__law_shown, d_f__law_added, d_f__law_number, d_f__law_table, d_f__law_turned, d_f__law_are_right, d_f__law_right, d_f_law]
def fnsP0 : List He5.DefA := fns0
def fnsP1 : List He5.DefA := fns1
def fnsP2 : List He5.DefA := fns2
def fns : List He5.DefA := fnsP0 ++ fnsP1 ++ fnsP2
def exs0 (K : Fg) : List Bool := [
  (Fa.glo "is_integer").ok K,
  (Fa.glo "is_number").ok K,
  (Fa.glo "want_number").ok K,
  (Fa.glo "as_ratio").ok K,
  (Fa.glo "common_divisor_ratios").ok K,
  (Fa.glo "Ratio").ok K,
  (Fa.glo "is_key").ok K,
  (Fa.glo "is_list").ok K,
  (Fa.glo "is_row").ok K,
  (Fa.glo "kept_row").ok K,
  (Fa.glo "want_table").ok K,
  (Fa.glo "Table").ok K,
  (Fa.glo "product_key").ok K,
  (Fa.glo "are_keys").ok K,
  (Fa.glo "is_term").ok K,
  (Fa.glo "want_terms").ok K,
  (Fa.glo "summed").ok K,
  (Fa.glo "in_order").ok K,
  (Fa.glo "term_text").ok K,
  (Fa.glo "question_text").ok K,
  (Fa.glo "Question").ok K,
  (Fa.glo "is_formula").ok K,
  (Fa.glo "is_formulas").ok K,
  (Fa.glo "Rule").ok K,
  (Fa.glo "has_places").ok K,
  (Fa.glo "Kept").ok K,
  (Fa.glo "Note").ok K,
  (Fa.glo "is_seed").ok K,
  (Fa.glo "Sketch").ok K,
  (Fa.glo "_law_rng").ok K]
def exs1 (K : Fg) : List Bool := [
  (Fa.glo "_law_draw").ok K,
  (Fa.glo "_law_choice").ok K,
  (Fa.glo "_law_names").ok K,
  (Fa.glo "_law_row_of").ok K,
  (Fa.glo "_law_model").ok K,
  (Fa.glo "_law_sketch").ok K,
  (Fa.glo "_law_shown").ok K,
  (Fa.glo "_law_added").ok K,
  (Fa.glo "_law_number").ok K,
  (Fa.glo "_law_table").ok K,
  (Fa.glo "_law_turned").ok K,
  (Fa.glo "_law_are_right").ok K,
  (Fa.glo "_law_right").ok K,
  (Fa.glo "law").ok K,
  (Fa.free "isinstance").ok K,
  (Fa.free "len").ok K,
  (Fa.free "sorted").ok K,
  (Fa.free "tuple").ok K,
  (Fa.free "dict").ok K,
  (Fa.free "list").ok K,
  (Fa.free "all").ok K,
  (Fa.free "any").ok K,
  (Fa.free "abs").ok K,
  (Fa.free "max").ok K,
  (Fa.free "min").ok K,
  (Fa.free "sum").ok K,
  (Fa.free "int").ok K,
  (Fa.free "divmod").ok K,
  (Fa.free "range").ok K,
  (Fa.free "str").ok K]
def exs2 (K : Fg) : List Bool := [
  (Fa.free "set").ok K,
  (Fa.free "zip").ok K,
  (Fa.free "repr").ok K,
  (Fa.free "enumerate").ok K,
  (Fa.free "bool").ok K,
  (Fa.free "ValueError").ok K,
  (Fa.int "LONGEST_KEY" 8).ok K,
  (Fa.int "MOST_SUMS" 8).ok K,
  (Fa.int "MOST_SEEDS" 12).ok K,
  (Fa.int "MOST_KEYS" 6).ok K,
  (Fa.str "LETTERS" "abcdefghijklmnopqrstuvwxyz").ok K,
  (Fa.str "KEY_SIGNS" "abcdefghijklmnopqrstuvwxyz0123456789").ok K,
  (Fa.cls "Ratio").ok K,
  (Fa.mkr "Ratio").ok K,
  PySem.W.selfFirst K (ga K "Ratio"),
  bTy K "Ratio",
  (Fa.noat "Ratio" "own_top").ok K,
  (Fa.noat "Ratio" "own_bottom").ok K,
  (Fa.cls "Table").ok K,
  (Fa.mkr "Table").ok K,
  bTy K "Table",
  (Fa.noat "Table" "own_counts").ok K,
  (Fa.cls "Question").ok K,
  (Fa.mkr "Question").ok K,
  bTy K "Question",
  (Fa.noat "Question" "own_weights").ok K,
  (Fa.cls "Rule").ok K,
  (Fa.mkr "Rule").ok K,
  bTy K "Rule",
  (Fa.noat "Rule" "own_formulas").ok K]
def exs3 (K : Fg) : List Bool := [
  (Fa.noat "Rule" "own_texts").ok K,
  (Fa.noat "Rule" "own_degree").ok K,
  (Fa.cls "Note").ok K,
  (Fa.mkr "Note").ok K,
  bTy K "Note",
  (Fa.noat "Note" "own_sums").ok K,
  (Fa.cls "Sketch").ok K,
  (Fa.mkr "Sketch").ok K,
  bTy K "Sketch",
  (Fa.noat "Sketch" "own_seeds").ok K,
  (Fa.cls "Kept").ok K,
  (Fa.mkr "Kept").ok K,
  bTy K "Kept",
  (Fa.noat "Kept" "own_sketch").ok K,
  (Fa.noat "Kept" "own_seed").ok K,
  (Fa.noat "Kept" "own_state").ok K,
  (Fa.meth "Ratio" "__add__").ok K,
  (Fa.meth "Ratio" "__eq__").ok K,
  (Fa.meth "Table" "at").ok K,
  (Fa.meth "Table" "__eq__").ok K,
  (Fa.meth "Question" "used_keys").ok K,
  (Fa.meth "Question" "__str__").ok K,
  (Fa.meth "Rule" "fits").ok K,
  (Fa.meth "Rule" "__repr__").ok K,
  (Fa.meth "Kept" "use").ok K,
  (Fa.meth "Kept" "put_more").ok K,
  (Fa.meth "Kept" "change").ok K,
  (Fa.meth "Kept" "add").ok K,
  (Fa.meth "Kept" "take_in").ok K,
  (Fa.meth "Kept" "copy").ok K]
def exs4 (K : Fg) : List Bool := [
  (Fa.meth "Kept" "__eq__").ok K,
  (Fa.meth "Note" "used_keys").ok K,
  (Fa.meth "Note" "shows").ok K,
  (Fa.meth "Note" "__len__").ok K,
  (Fa.meth "Note" "__eq__").ok K,
  (Fa.meth "Sketch" "seeds").ok K,
  (Fa.meth "Sketch" "used_keys").ok K,
  (Fa.meth "Sketch" "want_seed").ok K,
  (Fa.meth "Sketch" "note").ok K,
  (Fa.meth "Sketch" "walk").ok K,
  (Fa.meth "Sketch" "shows").ok K,
  (Fa.meth "Sketch" "__eq__").ok K,
  bProp K (ga K "Ratio") "sign",
  bProp K (ga K "Question") "degree",
  bProp K (ga K "Kept") "sketch",
  bProp K (ga K "Kept") "seed",
  bProp K (ga K "Kept") "shown",
  bProp K (ga K "Kept") "rule",
  eqO (PySem.W.findIn K (.ref (ga K "Ratio")) "__ne__") (some (some (.builtin "object.__ne__"))),
  eqO (PySem.W.findIn K (.ref (ga K "Table")) "__ne__") (some (some (.builtin "object.__ne__"))),
  eqO (PySem.W.findIn K (.ref (ga K "Sketch")) "__ne__") (some (some (.builtin "object.__ne__"))),
  eqO (PySem.W.findIn K (.ref (ga K "Kept")) "__ne__") (some (some (.builtin "object.__ne__"))),
  bKit K (.ref (ga K "Ratio")) (.ref (ga K "Ratio")) true,
  bKit K (.ref (ga K "Table")) (.ref (ga K "Table")) true,
  bKit K (.ref (ga K "Question")) (.ref (ga K "Question")) true,
  bKit K (.ref (ga K "Rule")) (.ref (ga K "Rule")) true,
  bKit K (.ref (ga K "Note")) (.ref (ga K "Note")) true,
  bKit K (.ref (ga K "Sketch")) (.ref (ga K "Sketch")) true,
  bKit K (.ref (ga K "Kept")) (.ref (ga K "Kept")) true,
  bKit K (.ref (ga K "Ratio")) (.type "int") false]
def exs5 (K : Fg) : List Bool := [
  bKit K (.type "int") (.ref (ga K "Ratio")) false,
  bCMet K (ga K "Question") "constant"]
def exsP0 (K : Fg) : List Bool := exs0 K ++ exs1 K
def exsP1 (K : Fg) : List Bool := exs2 K ++ exs3 K
def exsP2 (K : Fg) : List Bool := exs4 K ++ exs5 K
def exs (K : Fg) : List Bool := exsP0 K ++ exsP1 K ++ exsP2 K
def tfs : List Defn := []
def loose0 : List PySem.Str := ["_wall", "NeargapsError", "InvalidNumber", "InvalidName", "InvalidTable", "InvalidTerms", "InvalidQuestion", "InvalidSum", "InvalidSeeds", "InvalidWeight", "InvalidKeys", "InvalidRule"]
def loose1 : List PySem.Str := ["InvalidKept", "TooMany", "MissingError", "UnknownSeed", "StateError", "DividedByZero", "is_integer", "is_number", "want_number", "as_ratio", "common_divisor", "common_divisor_ratios"]
def loose2 : List PySem.Str := ["Ratio", "LETTERS", "KEY_SIGNS", "LONGEST_KEY", "is_key", "is_list", "is_row", "kept_row", "want_table", "Table", "product_key", "are_keys"]
def loose3 : List PySem.Str := ["is_term", "want_terms", "summed", "in_order", "told_terms", "multiplied", "term_text", "question_text", "as_question", "Question", "PLACES", "is_formula"]
def loose4 : List PySem.Str := ["is_formulas", "Rule", "has_places", "Kept", "MOST_SUMS", "common_divisor_notes", "first_place", "lowest", "cleared", "reduced_integers", "in_integers", "in_ratios"]
def loose5 : List PySem.Str := ["question_of", "Note", "MOST_SEEDS", "MOST_KEYS", "is_seed", "Sketch", "_law_rng", "_law_draw", "_law_choice", "_law_names", "_law_row_of", "_law_model"]
def loose6 : List PySem.Str := ["_law_sketch", "_law_shown", "_law_added", "_law_number", "_law_table", "_law_turned", "_law_are_right", "_law_right"]
def looseN : List PySem.Str := loose0 ++ loose1 ++ loose2 ++ loose3 ++ loose4 ++ loose5 ++ loose6
abbrev RR : PySem.W.OpenRow := PySem.W.OpenLaw.row PySem.Challenge.rw_neargaps_k80_whole_kept_notes_by_tables
abbrev qv : Program := PySem.W.view RR.prog [90]
theorem run0 (w : World) : HandSHeadRun.RunEq RR qv (hookN 5 fnsP0 tfs exsP0) (obG 5 fnsP0 tfs exsP0) 20000 looseN w := by
  intro os
  kernel_rfl
theorem run1 (w : World) : HandSHeadRun.RunEq RR qv (hookN 5 fnsP1 tfs exsP1) (obG 5 fnsP1 tfs exsP1) 20000 looseN w := by
  intro os
  kernel_rfl
theorem run2 (w : World) : HandSHeadRun.RunEq RR qv (hookN 5 fnsP2 tfs exsP2) (obG 5 fnsP2 tfs exsP2) 20000 looseN w := by
  intro os
  kernel_rfl
abbrev hkN : PySem.W.Hook := hookN 5 fns tfs exs
abbrev obN : PySem.W.SharedT → AlN := obG 5 fns tfs exs
theorem obN_eq (s : PySem.W.SharedT) : obN s = hkN.obs s.abs := obsN_eq (HandSHeadRun.getT_eq s)
theorem run (w : World) : HandSHeadRun.RunEq RR qv hkN obN 20000 looseN w := (runEq_join (runEq_join (run0 w) (run1 w)) (run2 w))
end NG

set_option Elab.async false
set_option linter.all false
set_option maxRecDepth 100000
set_option maxHeartbeats 0
/-! the row from the walk of its law -/
namespace NG
open PySem PySem.W PySem.Calls PyProof.Rows
abbrev dLaw : DefRec := HandSHeadRun.topDef RR.prog 90
theorem hd1 : opening RR.prog = plainProg RR.prog.main.scope.names := by kernel_rfl
theorem hd2 (s : Shared) : fenceModules? RR.prog s = some s := by kernel_rfl
theorem hd3 : defOf qv RR.name = some (dLaw, []) := by kernel_rfl
theorem hd4 : RR.prog.theDef RR.name = some (dLaw.params, dLaw.body, dLaw.scope) := by kernel_rfl
theorem hd5 : kwWritten? dLaw.params.kwonlyargs dLaw.params.kw_defaults = some [] := by kernel_rfl
theorem hd6 : RR.wellSaid = true := by first | assumption | decide +kernel
theorem hd7 : (chainsOk qv && opensWell RR.prog && (frees RR.toRowW && RR.within.isEmpty)) = true := by decide +kernel
theorem hd8 : RR.prog.bare := ⟨rfl, rfl, rfl, rfl, rfl, by decide +kernel⟩
theorem hd9 : dLaw.name = ("law" : PySem.Str) := by kernel_rfl
theorem hd10 : dLaw.params.defaults = [] := by kernel_rfl
theorem hdw : RR.toRowW.promised := by w_witness2
theorem hd_holds (call : WalkO qv looseN (XL qv []) hkN.says RR.toRowW dLaw [] fun f vs => PySem.call f vs) : RR.Holds :=
  HandSHeadRun.head_any (r := RR) (q := qv) (H := hkN) (ob := obN) (M := 20000) (loose := looseN) (d := dLaw) (kwd := []) obN_eq hd1 hd2 run hd3 hd4 hd5 rfl hd6 hd7 hd8 hdw call
theorem hd_row (h : RR.Holds) : PySem.Challenge.rw_neargaps_k80_whole_kept_notes_by_tables.Holds := by
  w_on; o_law
  exact h
end NG

set_option Elab.async false
set_option linter.all false
set_option maxRecDepth 100000
set_option maxHeartbeats 0
namespace NG
open PySem PySem.Spec PyProof.Rows L2 He
/-- what is known of the written part -/
structure Ev (K : Fg) (mg : Str → Option Value) : Prop where
  c : ∃ h, Says fns tfs exs h K
  x : ∃ h : Heap, K.In h ∧ h.Ns mainGlobals mg
theorem Ev.at {K : Fg} {mg : Str → Option Value} (e : Ev K mg) (i : Nat) {b : Bool} (hi : (exs K)[i]? = some b) : b = true := let ⟨_, c⟩ := e.c; c.at i hi
theorem Ev.fd {K : Fg} {mg : Str → Option Value} (e : Ev K mg) (i : Nat) {d : He5.DefA} (hi : fns[i]? = some d) : ∃ fd, FunD K d.name d.qual d.params d.body d.scope (d.dvs K) (d.kws K) (d.at_ K) fd := let ⟨_, c⟩ := e.c; c.fd i hi
section
variable {K : Fg} {mg : Str → Option Value}
theorem Ev.g_is_integer (e : Ev K mg) : mg "is_integer" = some (.ref (ga K "is_integer")) := let ⟨_, X, G⟩ := e.x; glo_ok X G (e.at 0 (b := (Fa.glo "is_integer").ok K) rfl)
theorem Ev.g_is_number (e : Ev K mg) : mg "is_number" = some (.ref (ga K "is_number")) := let ⟨_, X, G⟩ := e.x; glo_ok X G (e.at 1 (b := (Fa.glo "is_number").ok K) rfl)
theorem Ev.g_want_number (e : Ev K mg) : mg "want_number" = some (.ref (ga K "want_number")) := let ⟨_, X, G⟩ := e.x; glo_ok X G (e.at 2 (b := (Fa.glo "want_number").ok K) rfl)
theorem Ev.g_as_ratio (e : Ev K mg) : mg "as_ratio" = some (.ref (ga K "as_ratio")) := let ⟨_, X, G⟩ := e.x; glo_ok X G (e.at 3 (b := (Fa.glo "as_ratio").ok K) rfl)
theorem Ev.g_common_divisor_ratios (e : Ev K mg) : mg "common_divisor_ratios" = some (.ref (ga K "common_divisor_ratios")) := let ⟨_, X, G⟩ := e.x; glo_ok X G (e.at 4 (b := (Fa.glo "common_divisor_ratios").ok K) rfl)
theorem Ev.g_Ratio (e : Ev K mg) : mg "Ratio" = some (.ref (ga K "Ratio")) := let ⟨_, X, G⟩ := e.x; glo_ok X G (e.at 5 (b := (Fa.glo "Ratio").ok K) rfl)
theorem Ev.g_is_key (e : Ev K mg) : mg "is_key" = some (.ref (ga K "is_key")) := let ⟨_, X, G⟩ := e.x; glo_ok X G (e.at 6 (b := (Fa.glo "is_key").ok K) rfl)
theorem Ev.g_is_list (e : Ev K mg) : mg "is_list" = some (.ref (ga K "is_list")) := let ⟨_, X, G⟩ := e.x; glo_ok X G (e.at 7 (b := (Fa.glo "is_list").ok K) rfl)
theorem Ev.g_is_row (e : Ev K mg) : mg "is_row" = some (.ref (ga K "is_row")) := let ⟨_, X, G⟩ := e.x; glo_ok X G (e.at 8 (b := (Fa.glo "is_row").ok K) rfl)
theorem Ev.g_kept_row (e : Ev K mg) : mg "kept_row" = some (.ref (ga K "kept_row")) := let ⟨_, X, G⟩ := e.x; glo_ok X G (e.at 9 (b := (Fa.glo "kept_row").ok K) rfl)
theorem Ev.g_want_table (e : Ev K mg) : mg "want_table" = some (.ref (ga K "want_table")) := let ⟨_, X, G⟩ := e.x; glo_ok X G (e.at 10 (b := (Fa.glo "want_table").ok K) rfl)
theorem Ev.g_Table (e : Ev K mg) : mg "Table" = some (.ref (ga K "Table")) := let ⟨_, X, G⟩ := e.x; glo_ok X G (e.at 11 (b := (Fa.glo "Table").ok K) rfl)
theorem Ev.g_product_key (e : Ev K mg) : mg "product_key" = some (.ref (ga K "product_key")) := let ⟨_, X, G⟩ := e.x; glo_ok X G (e.at 12 (b := (Fa.glo "product_key").ok K) rfl)
theorem Ev.g_are_keys (e : Ev K mg) : mg "are_keys" = some (.ref (ga K "are_keys")) := let ⟨_, X, G⟩ := e.x; glo_ok X G (e.at 13 (b := (Fa.glo "are_keys").ok K) rfl)
theorem Ev.g_is_term (e : Ev K mg) : mg "is_term" = some (.ref (ga K "is_term")) := let ⟨_, X, G⟩ := e.x; glo_ok X G (e.at 14 (b := (Fa.glo "is_term").ok K) rfl)
theorem Ev.g_want_terms (e : Ev K mg) : mg "want_terms" = some (.ref (ga K "want_terms")) := let ⟨_, X, G⟩ := e.x; glo_ok X G (e.at 15 (b := (Fa.glo "want_terms").ok K) rfl)
theorem Ev.g_summed (e : Ev K mg) : mg "summed" = some (.ref (ga K "summed")) := let ⟨_, X, G⟩ := e.x; glo_ok X G (e.at 16 (b := (Fa.glo "summed").ok K) rfl)
theorem Ev.g_in_order (e : Ev K mg) : mg "in_order" = some (.ref (ga K "in_order")) := let ⟨_, X, G⟩ := e.x; glo_ok X G (e.at 17 (b := (Fa.glo "in_order").ok K) rfl)
theorem Ev.g_term_text (e : Ev K mg) : mg "term_text" = some (.ref (ga K "term_text")) := let ⟨_, X, G⟩ := e.x; glo_ok X G (e.at 18 (b := (Fa.glo "term_text").ok K) rfl)
theorem Ev.g_question_text (e : Ev K mg) : mg "question_text" = some (.ref (ga K "question_text")) := let ⟨_, X, G⟩ := e.x; glo_ok X G (e.at 19 (b := (Fa.glo "question_text").ok K) rfl)
theorem Ev.g_Question (e : Ev K mg) : mg "Question" = some (.ref (ga K "Question")) := let ⟨_, X, G⟩ := e.x; glo_ok X G (e.at 20 (b := (Fa.glo "Question").ok K) rfl)
theorem Ev.g_is_formula (e : Ev K mg) : mg "is_formula" = some (.ref (ga K "is_formula")) := let ⟨_, X, G⟩ := e.x; glo_ok X G (e.at 21 (b := (Fa.glo "is_formula").ok K) rfl)
theorem Ev.g_is_formulas (e : Ev K mg) : mg "is_formulas" = some (.ref (ga K "is_formulas")) := let ⟨_, X, G⟩ := e.x; glo_ok X G (e.at 22 (b := (Fa.glo "is_formulas").ok K) rfl)
theorem Ev.g_Rule (e : Ev K mg) : mg "Rule" = some (.ref (ga K "Rule")) := let ⟨_, X, G⟩ := e.x; glo_ok X G (e.at 23 (b := (Fa.glo "Rule").ok K) rfl)
theorem Ev.g_has_places (e : Ev K mg) : mg "has_places" = some (.ref (ga K "has_places")) := let ⟨_, X, G⟩ := e.x; glo_ok X G (e.at 24 (b := (Fa.glo "has_places").ok K) rfl)
theorem Ev.g_Kept (e : Ev K mg) : mg "Kept" = some (.ref (ga K "Kept")) := let ⟨_, X, G⟩ := e.x; glo_ok X G (e.at 25 (b := (Fa.glo "Kept").ok K) rfl)
theorem Ev.g_Note (e : Ev K mg) : mg "Note" = some (.ref (ga K "Note")) := let ⟨_, X, G⟩ := e.x; glo_ok X G (e.at 26 (b := (Fa.glo "Note").ok K) rfl)
theorem Ev.g_is_seed (e : Ev K mg) : mg "is_seed" = some (.ref (ga K "is_seed")) := let ⟨_, X, G⟩ := e.x; glo_ok X G (e.at 27 (b := (Fa.glo "is_seed").ok K) rfl)
theorem Ev.g_Sketch (e : Ev K mg) : mg "Sketch" = some (.ref (ga K "Sketch")) := let ⟨_, X, G⟩ := e.x; glo_ok X G (e.at 28 (b := (Fa.glo "Sketch").ok K) rfl)
theorem Ev.g__law_rng (e : Ev K mg) : mg "_law_rng" = some (.ref (ga K "_law_rng")) := let ⟨_, X, G⟩ := e.x; glo_ok X G (e.at 29 (b := (Fa.glo "_law_rng").ok K) rfl)
theorem Ev.g__law_draw (e : Ev K mg) : mg "_law_draw" = some (.ref (ga K "_law_draw")) := let ⟨_, X, G⟩ := e.x; glo_ok X G (e.at 30 (b := (Fa.glo "_law_draw").ok K) rfl)
theorem Ev.g__law_choice (e : Ev K mg) : mg "_law_choice" = some (.ref (ga K "_law_choice")) := let ⟨_, X, G⟩ := e.x; glo_ok X G (e.at 31 (b := (Fa.glo "_law_choice").ok K) rfl)
theorem Ev.g__law_names (e : Ev K mg) : mg "_law_names" = some (.ref (ga K "_law_names")) := let ⟨_, X, G⟩ := e.x; glo_ok X G (e.at 32 (b := (Fa.glo "_law_names").ok K) rfl)
theorem Ev.g__law_row_of (e : Ev K mg) : mg "_law_row_of" = some (.ref (ga K "_law_row_of")) := let ⟨_, X, G⟩ := e.x; glo_ok X G (e.at 33 (b := (Fa.glo "_law_row_of").ok K) rfl)
theorem Ev.g__law_model (e : Ev K mg) : mg "_law_model" = some (.ref (ga K "_law_model")) := let ⟨_, X, G⟩ := e.x; glo_ok X G (e.at 34 (b := (Fa.glo "_law_model").ok K) rfl)
theorem Ev.g__law_sketch (e : Ev K mg) : mg "_law_sketch" = some (.ref (ga K "_law_sketch")) := let ⟨_, X, G⟩ := e.x; glo_ok X G (e.at 35 (b := (Fa.glo "_law_sketch").ok K) rfl)
theorem Ev.g__law_shown (e : Ev K mg) : mg "_law_shown" = some (.ref (ga K "_law_shown")) := let ⟨_, X, G⟩ := e.x; glo_ok X G (e.at 36 (b := (Fa.glo "_law_shown").ok K) rfl)
theorem Ev.g__law_added (e : Ev K mg) : mg "_law_added" = some (.ref (ga K "_law_added")) := let ⟨_, X, G⟩ := e.x; glo_ok X G (e.at 37 (b := (Fa.glo "_law_added").ok K) rfl)
theorem Ev.g__law_number (e : Ev K mg) : mg "_law_number" = some (.ref (ga K "_law_number")) := let ⟨_, X, G⟩ := e.x; glo_ok X G (e.at 38 (b := (Fa.glo "_law_number").ok K) rfl)
theorem Ev.g__law_table (e : Ev K mg) : mg "_law_table" = some (.ref (ga K "_law_table")) := let ⟨_, X, G⟩ := e.x; glo_ok X G (e.at 39 (b := (Fa.glo "_law_table").ok K) rfl)
theorem Ev.g__law_turned (e : Ev K mg) : mg "_law_turned" = some (.ref (ga K "_law_turned")) := let ⟨_, X, G⟩ := e.x; glo_ok X G (e.at 40 (b := (Fa.glo "_law_turned").ok K) rfl)
theorem Ev.g__law_are_right (e : Ev K mg) : mg "_law_are_right" = some (.ref (ga K "_law_are_right")) := let ⟨_, X, G⟩ := e.x; glo_ok X G (e.at 41 (b := (Fa.glo "_law_are_right").ok K) rfl)
theorem Ev.g__law_right (e : Ev K mg) : mg "_law_right" = some (.ref (ga K "_law_right")) := let ⟨_, X, G⟩ := e.x; glo_ok X G (e.at 42 (b := (Fa.glo "_law_right").ok K) rfl)
theorem Ev.g_law (e : Ev K mg) : mg "law" = some (.ref (ga K "law")) := let ⟨_, X, G⟩ := e.x; glo_ok X G (e.at 43 (b := (Fa.glo "law").ok K) rfl)
theorem Ev.b_isinstance (e : Ev K mg) : mg "isinstance" = none := let ⟨_, X, G⟩ := e.x; free_ok X G (e.at 44 (b := (Fa.free "isinstance").ok K) rfl)
theorem Ev.b_len (e : Ev K mg) : mg "len" = none := let ⟨_, X, G⟩ := e.x; free_ok X G (e.at 45 (b := (Fa.free "len").ok K) rfl)
theorem Ev.b_sorted (e : Ev K mg) : mg "sorted" = none := let ⟨_, X, G⟩ := e.x; free_ok X G (e.at 46 (b := (Fa.free "sorted").ok K) rfl)
theorem Ev.b_tuple (e : Ev K mg) : mg "tuple" = none := let ⟨_, X, G⟩ := e.x; free_ok X G (e.at 47 (b := (Fa.free "tuple").ok K) rfl)
theorem Ev.b_dict (e : Ev K mg) : mg "dict" = none := let ⟨_, X, G⟩ := e.x; free_ok X G (e.at 48 (b := (Fa.free "dict").ok K) rfl)
theorem Ev.b_list (e : Ev K mg) : mg "list" = none := let ⟨_, X, G⟩ := e.x; free_ok X G (e.at 49 (b := (Fa.free "list").ok K) rfl)
theorem Ev.b_all (e : Ev K mg) : mg "all" = none := let ⟨_, X, G⟩ := e.x; free_ok X G (e.at 50 (b := (Fa.free "all").ok K) rfl)
theorem Ev.b_any (e : Ev K mg) : mg "any" = none := let ⟨_, X, G⟩ := e.x; free_ok X G (e.at 51 (b := (Fa.free "any").ok K) rfl)
theorem Ev.b_abs (e : Ev K mg) : mg "abs" = none := let ⟨_, X, G⟩ := e.x; free_ok X G (e.at 52 (b := (Fa.free "abs").ok K) rfl)
theorem Ev.b_max (e : Ev K mg) : mg "max" = none := let ⟨_, X, G⟩ := e.x; free_ok X G (e.at 53 (b := (Fa.free "max").ok K) rfl)
theorem Ev.b_min (e : Ev K mg) : mg "min" = none := let ⟨_, X, G⟩ := e.x; free_ok X G (e.at 54 (b := (Fa.free "min").ok K) rfl)
theorem Ev.b_sum (e : Ev K mg) : mg "sum" = none := let ⟨_, X, G⟩ := e.x; free_ok X G (e.at 55 (b := (Fa.free "sum").ok K) rfl)
theorem Ev.b_int (e : Ev K mg) : mg "int" = none := let ⟨_, X, G⟩ := e.x; free_ok X G (e.at 56 (b := (Fa.free "int").ok K) rfl)
theorem Ev.b_divmod (e : Ev K mg) : mg "divmod" = none := let ⟨_, X, G⟩ := e.x; free_ok X G (e.at 57 (b := (Fa.free "divmod").ok K) rfl)
theorem Ev.b_range (e : Ev K mg) : mg "range" = none := let ⟨_, X, G⟩ := e.x; free_ok X G (e.at 58 (b := (Fa.free "range").ok K) rfl)
theorem Ev.b_str (e : Ev K mg) : mg "str" = none := let ⟨_, X, G⟩ := e.x; free_ok X G (e.at 59 (b := (Fa.free "str").ok K) rfl)
theorem Ev.b_set (e : Ev K mg) : mg "set" = none := let ⟨_, X, G⟩ := e.x; free_ok X G (e.at 60 (b := (Fa.free "set").ok K) rfl)
theorem Ev.b_zip (e : Ev K mg) : mg "zip" = none := let ⟨_, X, G⟩ := e.x; free_ok X G (e.at 61 (b := (Fa.free "zip").ok K) rfl)
theorem Ev.b_repr (e : Ev K mg) : mg "repr" = none := let ⟨_, X, G⟩ := e.x; free_ok X G (e.at 62 (b := (Fa.free "repr").ok K) rfl)
theorem Ev.b_enumerate (e : Ev K mg) : mg "enumerate" = none := let ⟨_, X, G⟩ := e.x; free_ok X G (e.at 63 (b := (Fa.free "enumerate").ok K) rfl)
theorem Ev.b_bool (e : Ev K mg) : mg "bool" = none := let ⟨_, X, G⟩ := e.x; free_ok X G (e.at 64 (b := (Fa.free "bool").ok K) rfl)
theorem Ev.b_ValueError (e : Ev K mg) : mg "ValueError" = none := let ⟨_, X, G⟩ := e.x; free_ok X G (e.at 65 (b := (Fa.free "ValueError").ok K) rfl)
theorem Ev.LONGEST_KEY (e : Ev K mg) : ∃ t, mg "LONGEST_KEY" = some (.int 8 t) := let ⟨_, X, G⟩ := e.x; int_ok X G (e.at 66 (b := (Fa.int "LONGEST_KEY" 8).ok K) rfl)
theorem Ev.MOST_SUMS (e : Ev K mg) : ∃ t, mg "MOST_SUMS" = some (.int 8 t) := let ⟨_, X, G⟩ := e.x; int_ok X G (e.at 67 (b := (Fa.int "MOST_SUMS" 8).ok K) rfl)
theorem Ev.MOST_SEEDS (e : Ev K mg) : ∃ t, mg "MOST_SEEDS" = some (.int 12 t) := let ⟨_, X, G⟩ := e.x; int_ok X G (e.at 68 (b := (Fa.int "MOST_SEEDS" 12).ok K) rfl)
theorem Ev.MOST_KEYS (e : Ev K mg) : ∃ t, mg "MOST_KEYS" = some (.int 6 t) := let ⟨_, X, G⟩ := e.x; int_ok X G (e.at 69 (b := (Fa.int "MOST_KEYS" 6).ok K) rfl)
theorem Ev.LETTERS (e : Ev K mg) : ∃ t, mg "LETTERS" = some (.str "abcdefghijklmnopqrstuvwxyz" t) := let ⟨_, X, G⟩ := e.x; str_ok X G (e.at 70 (b := (Fa.str "LETTERS" "abcdefghijklmnopqrstuvwxyz").ok K) rfl)
theorem Ev.SIGNS (e : Ev K mg) : ∃ t, mg "KEY_SIGNS" = some (.str "abcdefghijklmnopqrstuvwxyz0123456789" t) := let ⟨_, X, G⟩ := e.x; str_ok X G (e.at 71 (b := (Fa.str "KEY_SIGNS" "abcdefghijklmnopqrstuvwxyz0123456789").ok K) rfl)
theorem Ev.cl_Ratio (e : Ev K mg) : Cls K (ga K "Ratio") := cls_ok (e.at 72 (b := (Fa.cls "Ratio").ok K) rfl)
theorem Ev.mk_Ratio (e : Ev K mg) : Mk K (ga K "Ratio") (ma K (ga K "Ratio") "__init__") := mkr_ok (e.at 73 (b := (Fa.mkr "Ratio").ok K) rfl)
theorem Ev.sf_Ratio (e : Ev K mg) : PySem.W.selfFirst K (ga K "Ratio") = true := id (e.at 74 (b := PySem.W.selfFirst K (ga K "Ratio")) rfl)
theorem Ev.ty_Ratio (e : Ev K mg) : InsT K (ga K "Ratio") := bTy_ok (e.at 75 (b := bTy K "Ratio") rfl)
theorem Ev.n_Ratio_own_top (e : Ev K mg) : NoAttr K (ga K "Ratio") "own_top" := noat_ok (e.at 76 (b := (Fa.noat "Ratio" "own_top").ok K) rfl)
theorem Ev.n_Ratio_own_bottom (e : Ev K mg) : NoAttr K (ga K "Ratio") "own_bottom" := noat_ok (e.at 77 (b := (Fa.noat "Ratio" "own_bottom").ok K) rfl)
theorem Ev.cl_Table (e : Ev K mg) : Cls K (ga K "Table") := cls_ok (e.at 78 (b := (Fa.cls "Table").ok K) rfl)
theorem Ev.mk_Table (e : Ev K mg) : Mk K (ga K "Table") (ma K (ga K "Table") "__init__") := mkr_ok (e.at 79 (b := (Fa.mkr "Table").ok K) rfl)
theorem Ev.ty_Table (e : Ev K mg) : InsT K (ga K "Table") := bTy_ok (e.at 80 (b := bTy K "Table") rfl)
theorem Ev.n_Table_own_counts (e : Ev K mg) : NoAttr K (ga K "Table") "own_counts" := noat_ok (e.at 81 (b := (Fa.noat "Table" "own_counts").ok K) rfl)
theorem Ev.cl_Question (e : Ev K mg) : Cls K (ga K "Question") := cls_ok (e.at 82 (b := (Fa.cls "Question").ok K) rfl)
theorem Ev.mk_Question (e : Ev K mg) : Mk K (ga K "Question") (ma K (ga K "Question") "__init__") := mkr_ok (e.at 83 (b := (Fa.mkr "Question").ok K) rfl)
theorem Ev.ty_Question (e : Ev K mg) : InsT K (ga K "Question") := bTy_ok (e.at 84 (b := bTy K "Question") rfl)
theorem Ev.n_Question_own_weights (e : Ev K mg) : NoAttr K (ga K "Question") "own_weights" := noat_ok (e.at 85 (b := (Fa.noat "Question" "own_weights").ok K) rfl)
theorem Ev.cl_Rule (e : Ev K mg) : Cls K (ga K "Rule") := cls_ok (e.at 86 (b := (Fa.cls "Rule").ok K) rfl)
theorem Ev.mk_Rule (e : Ev K mg) : Mk K (ga K "Rule") (ma K (ga K "Rule") "__init__") := mkr_ok (e.at 87 (b := (Fa.mkr "Rule").ok K) rfl)
theorem Ev.ty_Rule (e : Ev K mg) : InsT K (ga K "Rule") := bTy_ok (e.at 88 (b := bTy K "Rule") rfl)
theorem Ev.n_Rule_own_formulas (e : Ev K mg) : NoAttr K (ga K "Rule") "own_formulas" := noat_ok (e.at 89 (b := (Fa.noat "Rule" "own_formulas").ok K) rfl)
theorem Ev.n_Rule_own_texts (e : Ev K mg) : NoAttr K (ga K "Rule") "own_texts" := noat_ok (e.at 90 (b := (Fa.noat "Rule" "own_texts").ok K) rfl)
theorem Ev.n_Rule_own_degree (e : Ev K mg) : NoAttr K (ga K "Rule") "own_degree" := noat_ok (e.at 91 (b := (Fa.noat "Rule" "own_degree").ok K) rfl)
theorem Ev.cl_Note (e : Ev K mg) : Cls K (ga K "Note") := cls_ok (e.at 92 (b := (Fa.cls "Note").ok K) rfl)
theorem Ev.mk_Note (e : Ev K mg) : Mk K (ga K "Note") (ma K (ga K "Note") "__init__") := mkr_ok (e.at 93 (b := (Fa.mkr "Note").ok K) rfl)
theorem Ev.ty_Note (e : Ev K mg) : InsT K (ga K "Note") := bTy_ok (e.at 94 (b := bTy K "Note") rfl)
theorem Ev.n_Note_own_sums (e : Ev K mg) : NoAttr K (ga K "Note") "own_sums" := noat_ok (e.at 95 (b := (Fa.noat "Note" "own_sums").ok K) rfl)
theorem Ev.cl_Sketch (e : Ev K mg) : Cls K (ga K "Sketch") := cls_ok (e.at 96 (b := (Fa.cls "Sketch").ok K) rfl)
theorem Ev.mk_Sketch (e : Ev K mg) : Mk K (ga K "Sketch") (ma K (ga K "Sketch") "__init__") := mkr_ok (e.at 97 (b := (Fa.mkr "Sketch").ok K) rfl)
theorem Ev.ty_Sketch (e : Ev K mg) : InsT K (ga K "Sketch") := bTy_ok (e.at 98 (b := bTy K "Sketch") rfl)
theorem Ev.n_Sketch_own_seeds (e : Ev K mg) : NoAttr K (ga K "Sketch") "own_seeds" := noat_ok (e.at 99 (b := (Fa.noat "Sketch" "own_seeds").ok K) rfl)
theorem Ev.cl_Kept (e : Ev K mg) : Cls K (ga K "Kept") := cls_ok (e.at 100 (b := (Fa.cls "Kept").ok K) rfl)
theorem Ev.mk_Kept (e : Ev K mg) : Mk K (ga K "Kept") (ma K (ga K "Kept") "__init__") := mkr_ok (e.at 101 (b := (Fa.mkr "Kept").ok K) rfl)
theorem Ev.ty_Kept (e : Ev K mg) : InsT K (ga K "Kept") := bTy_ok (e.at 102 (b := bTy K "Kept") rfl)
theorem Ev.n_Kept_own_sketch (e : Ev K mg) : NoAttr K (ga K "Kept") "own_sketch" := noat_ok (e.at 103 (b := (Fa.noat "Kept" "own_sketch").ok K) rfl)
theorem Ev.n_Kept_own_seed (e : Ev K mg) : NoAttr K (ga K "Kept") "own_seed" := noat_ok (e.at 104 (b := (Fa.noat "Kept" "own_seed").ok K) rfl)
theorem Ev.n_Kept_own_state (e : Ev K mg) : NoAttr K (ga K "Kept") "own_state" := noat_ok (e.at 105 (b := (Fa.noat "Kept" "own_state").ok K) rfl)
theorem Ev.me_Ratio_add (e : Ev K mg) : Meth K (ga K "Ratio") "__add__" (ma K (ga K "Ratio") "__add__") := meth_ok (e.at 106 (b := (Fa.meth "Ratio" "__add__").ok K) rfl)
theorem Ev.me_Ratio_eq (e : Ev K mg) : Meth K (ga K "Ratio") "__eq__" (ma K (ga K "Ratio") "__eq__") := meth_ok (e.at 107 (b := (Fa.meth "Ratio" "__eq__").ok K) rfl)
theorem Ev.me_Table_at (e : Ev K mg) : Meth K (ga K "Table") "at" (ma K (ga K "Table") "at") := meth_ok (e.at 108 (b := (Fa.meth "Table" "at").ok K) rfl)
theorem Ev.me_Table_eq (e : Ev K mg) : Meth K (ga K "Table") "__eq__" (ma K (ga K "Table") "__eq__") := meth_ok (e.at 109 (b := (Fa.meth "Table" "__eq__").ok K) rfl)
theorem Ev.me_Question_used_keys (e : Ev K mg) : Meth K (ga K "Question") "used_keys" (ma K (ga K "Question") "used_keys") := meth_ok (e.at 110 (b := (Fa.meth "Question" "used_keys").ok K) rfl)
theorem Ev.me_Question_str (e : Ev K mg) : Meth K (ga K "Question") "__str__" (ma K (ga K "Question") "__str__") := meth_ok (e.at 111 (b := (Fa.meth "Question" "__str__").ok K) rfl)
theorem Ev.me_Rule_fits (e : Ev K mg) : Meth K (ga K "Rule") "fits" (ma K (ga K "Rule") "fits") := meth_ok (e.at 112 (b := (Fa.meth "Rule" "fits").ok K) rfl)
theorem Ev.me_Rule_repr (e : Ev K mg) : Meth K (ga K "Rule") "__repr__" (ma K (ga K "Rule") "__repr__") := meth_ok (e.at 113 (b := (Fa.meth "Rule" "__repr__").ok K) rfl)
theorem Ev.me_Kept_use (e : Ev K mg) : Meth K (ga K "Kept") "use" (ma K (ga K "Kept") "use") := meth_ok (e.at 114 (b := (Fa.meth "Kept" "use").ok K) rfl)
theorem Ev.me_Kept_put_more (e : Ev K mg) : Meth K (ga K "Kept") "put_more" (ma K (ga K "Kept") "put_more") := meth_ok (e.at 115 (b := (Fa.meth "Kept" "put_more").ok K) rfl)
theorem Ev.me_Kept_change (e : Ev K mg) : Meth K (ga K "Kept") "change" (ma K (ga K "Kept") "change") := meth_ok (e.at 116 (b := (Fa.meth "Kept" "change").ok K) rfl)
theorem Ev.me_Kept_add (e : Ev K mg) : Meth K (ga K "Kept") "add" (ma K (ga K "Kept") "add") := meth_ok (e.at 117 (b := (Fa.meth "Kept" "add").ok K) rfl)
theorem Ev.me_Kept_take_in (e : Ev K mg) : Meth K (ga K "Kept") "take_in" (ma K (ga K "Kept") "take_in") := meth_ok (e.at 118 (b := (Fa.meth "Kept" "take_in").ok K) rfl)
theorem Ev.me_Kept_copy (e : Ev K mg) : Meth K (ga K "Kept") "copy" (ma K (ga K "Kept") "copy") := meth_ok (e.at 119 (b := (Fa.meth "Kept" "copy").ok K) rfl)
theorem Ev.me_Kept_eq (e : Ev K mg) : Meth K (ga K "Kept") "__eq__" (ma K (ga K "Kept") "__eq__") := meth_ok (e.at 120 (b := (Fa.meth "Kept" "__eq__").ok K) rfl)
theorem Ev.me_Note_used_keys (e : Ev K mg) : Meth K (ga K "Note") "used_keys" (ma K (ga K "Note") "used_keys") := meth_ok (e.at 121 (b := (Fa.meth "Note" "used_keys").ok K) rfl)
theorem Ev.me_Note_shows (e : Ev K mg) : Meth K (ga K "Note") "shows" (ma K (ga K "Note") "shows") := meth_ok (e.at 122 (b := (Fa.meth "Note" "shows").ok K) rfl)
theorem Ev.me_Note_len (e : Ev K mg) : Meth K (ga K "Note") "__len__" (ma K (ga K "Note") "__len__") := meth_ok (e.at 123 (b := (Fa.meth "Note" "__len__").ok K) rfl)
theorem Ev.me_Note_eq (e : Ev K mg) : Meth K (ga K "Note") "__eq__" (ma K (ga K "Note") "__eq__") := meth_ok (e.at 124 (b := (Fa.meth "Note" "__eq__").ok K) rfl)
theorem Ev.me_Sketch_seeds (e : Ev K mg) : Meth K (ga K "Sketch") "seeds" (ma K (ga K "Sketch") "seeds") := meth_ok (e.at 125 (b := (Fa.meth "Sketch" "seeds").ok K) rfl)
theorem Ev.me_Sketch_used_keys (e : Ev K mg) : Meth K (ga K "Sketch") "used_keys" (ma K (ga K "Sketch") "used_keys") := meth_ok (e.at 126 (b := (Fa.meth "Sketch" "used_keys").ok K) rfl)
theorem Ev.me_Sketch_want_seed (e : Ev K mg) : Meth K (ga K "Sketch") "want_seed" (ma K (ga K "Sketch") "want_seed") := meth_ok (e.at 127 (b := (Fa.meth "Sketch" "want_seed").ok K) rfl)
theorem Ev.me_Sketch_note (e : Ev K mg) : Meth K (ga K "Sketch") "note" (ma K (ga K "Sketch") "note") := meth_ok (e.at 128 (b := (Fa.meth "Sketch" "note").ok K) rfl)
theorem Ev.me_Sketch_walk (e : Ev K mg) : Meth K (ga K "Sketch") "walk" (ma K (ga K "Sketch") "walk") := meth_ok (e.at 129 (b := (Fa.meth "Sketch" "walk").ok K) rfl)
theorem Ev.me_Sketch_shows (e : Ev K mg) : Meth K (ga K "Sketch") "shows" (ma K (ga K "Sketch") "shows") := meth_ok (e.at 130 (b := (Fa.meth "Sketch" "shows").ok K) rfl)
theorem Ev.me_Sketch_eq (e : Ev K mg) : Meth K (ga K "Sketch") "__eq__" (ma K (ga K "Sketch") "__eq__") := meth_ok (e.at 131 (b := (Fa.meth "Sketch" "__eq__").ok K) rfl)
theorem Ev.p_Ratio_sign (e : Ev K mg) : PropOf K (ga K "Ratio") "sign" (ma K (ga K "Ratio") "sign") (propG K (ga K "Ratio") "sign") := bProp_ok (e.at 132 (b := bProp K (ga K "Ratio") "sign") rfl)
theorem Ev.p_Question_degree (e : Ev K mg) : PropOf K (ga K "Question") "degree" (ma K (ga K "Question") "degree") (propG K (ga K "Question") "degree") := bProp_ok (e.at 133 (b := bProp K (ga K "Question") "degree") rfl)
theorem Ev.p_Kept_sketch (e : Ev K mg) : PropOf K (ga K "Kept") "sketch" (ma K (ga K "Kept") "sketch") (propG K (ga K "Kept") "sketch") := bProp_ok (e.at 134 (b := bProp K (ga K "Kept") "sketch") rfl)
theorem Ev.p_Kept_seed (e : Ev K mg) : PropOf K (ga K "Kept") "seed" (ma K (ga K "Kept") "seed") (propG K (ga K "Kept") "seed") := bProp_ok (e.at 135 (b := bProp K (ga K "Kept") "seed") rfl)
theorem Ev.p_Kept_shown (e : Ev K mg) : PropOf K (ga K "Kept") "shown" (ma K (ga K "Kept") "shown") (propG K (ga K "Kept") "shown") := bProp_ok (e.at 136 (b := bProp K (ga K "Kept") "shown") rfl)
theorem Ev.p_Kept_rule (e : Ev K mg) : PropOf K (ga K "Kept") "rule" (ma K (ga K "Kept") "rule") (propG K (ga K "Kept") "rule") := bProp_ok (e.at 137 (b := bProp K (ga K "Kept") "rule") rfl)
theorem Ev.ne_Ratio (e : Ev K mg) : PySem.W.findIn K (.ref (ga K "Ratio")) "__ne__" = some (some (.builtin "object.__ne__")) := eqO_ok (e.at 138 (b := eqO (PySem.W.findIn K (.ref (ga K "Ratio")) "__ne__") (some (some (.builtin "object.__ne__")))) rfl)
theorem Ev.ne_Table (e : Ev K mg) : PySem.W.findIn K (.ref (ga K "Table")) "__ne__" = some (some (.builtin "object.__ne__")) := eqO_ok (e.at 139 (b := eqO (PySem.W.findIn K (.ref (ga K "Table")) "__ne__") (some (some (.builtin "object.__ne__")))) rfl)
theorem Ev.ne_Sketch (e : Ev K mg) : PySem.W.findIn K (.ref (ga K "Sketch")) "__ne__" = some (some (.builtin "object.__ne__")) := eqO_ok (e.at 140 (b := eqO (PySem.W.findIn K (.ref (ga K "Sketch")) "__ne__") (some (some (.builtin "object.__ne__")))) rfl)
theorem Ev.ne_Kept (e : Ev K mg) : PySem.W.findIn K (.ref (ga K "Kept")) "__ne__" = some (some (.builtin "object.__ne__")) := eqO_ok (e.at 141 (b := eqO (PySem.W.findIn K (.ref (ga K "Kept")) "__ne__") (some (some (.builtin "object.__ne__")))) rfl)
theorem Ev.k_Ratio_Ratio (e : Ev K mg) : PySem.W.kitOne K (.ref (ga K "Ratio")) (.ref (ga K "Ratio")) = some true := of_decide_eq_true (e.at 142 (b := bKit K (.ref (ga K "Ratio")) (.ref (ga K "Ratio")) true) rfl)
theorem Ev.k_Table_Table (e : Ev K mg) : PySem.W.kitOne K (.ref (ga K "Table")) (.ref (ga K "Table")) = some true := of_decide_eq_true (e.at 143 (b := bKit K (.ref (ga K "Table")) (.ref (ga K "Table")) true) rfl)
theorem Ev.k_Question_Question (e : Ev K mg) : PySem.W.kitOne K (.ref (ga K "Question")) (.ref (ga K "Question")) = some true := of_decide_eq_true (e.at 144 (b := bKit K (.ref (ga K "Question")) (.ref (ga K "Question")) true) rfl)
theorem Ev.k_Rule_Rule (e : Ev K mg) : PySem.W.kitOne K (.ref (ga K "Rule")) (.ref (ga K "Rule")) = some true := of_decide_eq_true (e.at 145 (b := bKit K (.ref (ga K "Rule")) (.ref (ga K "Rule")) true) rfl)
theorem Ev.k_Note_Note (e : Ev K mg) : PySem.W.kitOne K (.ref (ga K "Note")) (.ref (ga K "Note")) = some true := of_decide_eq_true (e.at 146 (b := bKit K (.ref (ga K "Note")) (.ref (ga K "Note")) true) rfl)
theorem Ev.k_Sketch_Sketch (e : Ev K mg) : PySem.W.kitOne K (.ref (ga K "Sketch")) (.ref (ga K "Sketch")) = some true := of_decide_eq_true (e.at 147 (b := bKit K (.ref (ga K "Sketch")) (.ref (ga K "Sketch")) true) rfl)
theorem Ev.k_Kept_Kept (e : Ev K mg) : PySem.W.kitOne K (.ref (ga K "Kept")) (.ref (ga K "Kept")) = some true := of_decide_eq_true (e.at 148 (b := bKit K (.ref (ga K "Kept")) (.ref (ga K "Kept")) true) rfl)
theorem Ev.k_Ratio_int (e : Ev K mg) : PySem.W.kitOne K (.ref (ga K "Ratio")) (.type "int") = some false := of_decide_eq_true (e.at 149 (b := bKit K (.ref (ga K "Ratio")) (.type "int") false) rfl)
theorem Ev.k_int_Ratio (e : Ev K mg) : PySem.W.kitOne K (.type "int") (.ref (ga K "Ratio")) = some false := of_decide_eq_true (e.at 150 (b := bKit K (.type "int") (.ref (ga K "Ratio")) false) rfl)
theorem Ev.cm_constant (e : Ev K mg) : CMetOk K (ga K "Question") "constant" := bCMet_ok (e.at 151 (b := bCMet K (ga K "Question") "constant") rfl)
theorem Ev.F_f_is_integer (e : Ev K mg) : ∃ fd, FunD K "is_integer" "is_integer" (defArgs f_is_integer) (defBody f_is_integer) (defScope f_is_integer) [] [] (fAd K ("is_integer", none)) fd := e.fd 0 (d := d_f_is_integer) rfl
theorem Ev.F_f_is_number (e : Ev K mg) : ∃ fd, FunD K "is_number" "is_number" (defArgs f_is_number) (defBody f_is_number) (defScope f_is_number) [] [] (fAd K ("is_number", none)) fd := e.fd 1 (d := d_f_is_number) rfl
theorem Ev.F_f_want_number (e : Ev K mg) : ∃ fd, FunD K "want_number" "want_number" (defArgs f_want_number) (defBody f_want_number) (defScope f_want_number) [] [] (fAd K ("want_number", none)) fd := e.fd 2 (d := d_f_want_number) rfl
theorem Ev.F_f_as_ratio (e : Ev K mg) : ∃ fd, FunD K "as_ratio" "as_ratio" (defArgs f_as_ratio) (defBody f_as_ratio) (defScope f_as_ratio) [] [] (fAd K ("as_ratio", none)) fd := e.fd 3 (d := d_f_as_ratio) rfl
theorem Ev.F_f_common_divisor_ratios (e : Ev K mg) : ∃ fd, FunD K "common_divisor" "common_divisor" (defArgs f_common_divisor_ratios) (defBody f_common_divisor_ratios) (defScope f_common_divisor_ratios) [] [] (fAd K ("common_divisor_ratios", none)) fd := e.fd 4 (d := d_f_common_divisor_ratios) rfl
theorem Ev.F_m_Ratio_init (e : Ev K mg) : ∃ fd, FunD K "__init__" "Ratio.__init__" (defArgs m_Ratio_init) (defBody m_Ratio_init) (defScope m_Ratio_init) [(Dv.v K (.int 1))] [] (fAd K ("Ratio", some "__init__")) fd := e.fd 5 (d := d_m_Ratio_init) rfl
theorem Ev.F_m_Ratio_sign (e : Ev K mg) : ∃ fd, FunD K "sign" "Ratio.sign" (defArgs m_Ratio_sign) (defBody m_Ratio_sign) (defScope m_Ratio_sign) [] [] (propG K (ga K "Ratio") "sign") fd := e.fd 6 (d := d_m_Ratio_sign) rfl
theorem Ev.F_m_Ratio_add (e : Ev K mg) : ∃ fd, FunD K "__add__" "Ratio.__add__" (defArgs m_Ratio_add) (defBody m_Ratio_add) (defScope m_Ratio_add) [] [] (fAd K ("Ratio", some "__add__")) fd := e.fd 7 (d := d_m_Ratio_add) rfl
theorem Ev.F_m_Ratio_eq (e : Ev K mg) : ∃ fd, FunD K "__eq__" "Ratio.__eq__" (defArgs m_Ratio_eq) (defBody m_Ratio_eq) (defScope m_Ratio_eq) [] [] (fAd K ("Ratio", some "__eq__")) fd := e.fd 8 (d := d_m_Ratio_eq) rfl
theorem Ev.F_f_is_key (e : Ev K mg) : ∃ fd, FunD K "is_key" "is_key" (defArgs f_is_key) (defBody f_is_key) (defScope f_is_key) [] [] (fAd K ("is_key", none)) fd := e.fd 9 (d := d_f_is_key) rfl
theorem Ev.F_f_is_list (e : Ev K mg) : ∃ fd, FunD K "is_list" "is_list" (defArgs f_is_list) (defBody f_is_list) (defScope f_is_list) [] [] (fAd K ("is_list", none)) fd := e.fd 10 (d := d_f_is_list) rfl
theorem Ev.F_f_is_row (e : Ev K mg) : ∃ fd, FunD K "is_row" "is_row" (defArgs f_is_row) (defBody f_is_row) (defScope f_is_row) [] [] (fAd K ("is_row", none)) fd := e.fd 11 (d := d_f_is_row) rfl
theorem Ev.F_f_kept_row (e : Ev K mg) : ∃ fd, FunD K "kept_row" "kept_row" (defArgs f_kept_row) (defBody f_kept_row) (defScope f_kept_row) [] [] (fAd K ("kept_row", none)) fd := e.fd 12 (d := d_f_kept_row) rfl
theorem Ev.F_f_want_table (e : Ev K mg) : ∃ fd, FunD K "want_table" "want_table" (defArgs f_want_table) (defBody f_want_table) (defScope f_want_table) [] [] (fAd K ("want_table", none)) fd := e.fd 13 (d := d_f_want_table) rfl
theorem Ev.F_m_Table_init (e : Ev K mg) : ∃ fd, FunD K "__init__" "Table.__init__" (defArgs m_Table_init) (defBody m_Table_init) (defScope m_Table_init) [(Dv.v K (.non))] [] (fAd K ("Table", some "__init__")) fd := e.fd 14 (d := d_m_Table_init) rfl
theorem Ev.F_m_Table_at (e : Ev K mg) : ∃ fd, FunD K "at" "Table.at" (defArgs m_Table_at) (defBody m_Table_at) (defScope m_Table_at) [] [] (fAd K ("Table", some "at")) fd := e.fd 15 (d := d_m_Table_at) rfl
theorem Ev.F_m_Table_eq (e : Ev K mg) : ∃ fd, FunD K "__eq__" "Table.__eq__" (defArgs m_Table_eq) (defBody m_Table_eq) (defScope m_Table_eq) [] [] (fAd K ("Table", some "__eq__")) fd := e.fd 16 (d := d_m_Table_eq) rfl
theorem Ev.F_f_product_key (e : Ev K mg) : ∃ fd, FunD K "product_key" "product_key" (defArgs f_product_key) (defBody f_product_key) (defScope f_product_key) [] [] (fAd K ("product_key", none)) fd := e.fd 17 (d := d_f_product_key) rfl
theorem Ev.F_f_are_keys (e : Ev K mg) : ∃ fd, FunD K "are_keys" "are_keys" (defArgs f_are_keys) (defBody f_are_keys) (defScope f_are_keys) [] [] (fAd K ("are_keys", none)) fd := e.fd 18 (d := d_f_are_keys) rfl
theorem Ev.F_f_is_term (e : Ev K mg) : ∃ fd, FunD K "is_term" "is_term" (defArgs f_is_term) (defBody f_is_term) (defScope f_is_term) [] [] (fAd K ("is_term", none)) fd := e.fd 19 (d := d_f_is_term) rfl
theorem Ev.F_f_want_terms (e : Ev K mg) : ∃ fd, FunD K "want_terms" "want_terms" (defArgs f_want_terms) (defBody f_want_terms) (defScope f_want_terms) [] [] (fAd K ("want_terms", none)) fd := e.fd 20 (d := d_f_want_terms) rfl
theorem Ev.F_f_summed (e : Ev K mg) : ∃ fd, FunD K "summed" "summed" (defArgs f_summed) (defBody f_summed) (defScope f_summed) [] [] (fAd K ("summed", none)) fd := e.fd 21 (d := d_f_summed) rfl
theorem Ev.F_f_in_order (e : Ev K mg) : ∃ fd, FunD K "in_order" "in_order" (defArgs f_in_order) (defBody f_in_order) (defScope f_in_order) [] [] (fAd K ("in_order", none)) fd := e.fd 22 (d := d_f_in_order) rfl
theorem Ev.F_f_term_text (e : Ev K mg) : ∃ fd, FunD K "term_text" "term_text" (defArgs f_term_text) (defBody f_term_text) (defScope f_term_text) [] [] (fAd K ("term_text", none)) fd := e.fd 23 (d := d_f_term_text) rfl
theorem Ev.F_f_question_text (e : Ev K mg) : ∃ fd, FunD K "question_text" "question_text" (defArgs f_question_text) (defBody f_question_text) (defScope f_question_text) [] [] (fAd K ("question_text", none)) fd := e.fd 24 (d := d_f_question_text) rfl
theorem Ev.F_m_Question_init (e : Ev K mg) : ∃ fd, FunD K "__init__" "Question.__init__" (defArgs m_Question_init) (defBody m_Question_init) (defScope m_Question_init) [(Dv.v K (.adr (dflAt ("Question", some "__init__") 0)))] [] (fAd K ("Question", some "__init__")) fd := e.fd 25 (d := d_m_Question_init) rfl
theorem Ev.F_m_Question_constant (e : Ev K mg) : ∃ fd, FunD K "constant" "Question.constant" (defArgs m_Question_constant) (defBody m_Question_constant) (defScope m_Question_constant) [] [] (cmG K (ga K "Question") "constant") fd := e.fd 26 (d := d_m_Question_constant) rfl
theorem Ev.F_m_Question_degree (e : Ev K mg) : ∃ fd, FunD K "degree" "Question.degree" (defArgs m_Question_degree) (defBody m_Question_degree) (defScope m_Question_degree) [] [] (propG K (ga K "Question") "degree") fd := e.fd 27 (d := d_m_Question_degree) rfl
theorem Ev.F_m_Question_used_keys (e : Ev K mg) : ∃ fd, FunD K "used_keys" "Question.used_keys" (defArgs m_Question_used_keys) (defBody m_Question_used_keys) (defScope m_Question_used_keys) [] [] (fAd K ("Question", some "used_keys")) fd := e.fd 28 (d := d_m_Question_used_keys) rfl
theorem Ev.F_m_Question_str (e : Ev K mg) : ∃ fd, FunD K "__str__" "Question.__str__" (defArgs m_Question_str) (defBody m_Question_str) (defScope m_Question_str) [] [] (fAd K ("Question", some "__str__")) fd := e.fd 29 (d := d_m_Question_str) rfl
theorem Ev.F_f_is_formula (e : Ev K mg) : ∃ fd, FunD K "is_formula" "is_formula" (defArgs f_is_formula) (defBody f_is_formula) (defScope f_is_formula) [] [] (fAd K ("is_formula", none)) fd := e.fd 30 (d := d_f_is_formula) rfl
theorem Ev.F_f_is_formulas (e : Ev K mg) : ∃ fd, FunD K "is_formulas" "is_formulas" (defArgs f_is_formulas) (defBody f_is_formulas) (defScope f_is_formulas) [] [] (fAd K ("is_formulas", none)) fd := e.fd 31 (d := d_f_is_formulas) rfl
theorem Ev.F_m_Rule_init (e : Ev K mg) : ∃ fd, FunD K "__init__" "Rule.__init__" (defArgs m_Rule_init) (defBody m_Rule_init) (defScope m_Rule_init) [] [] (fAd K ("Rule", some "__init__")) fd := e.fd 32 (d := d_m_Rule_init) rfl
theorem Ev.F_m_Rule_fits (e : Ev K mg) : ∃ fd, FunD K "fits" "Rule.fits" (defArgs m_Rule_fits) (defBody m_Rule_fits) (defScope m_Rule_fits) [] [] (fAd K ("Rule", some "fits")) fd := e.fd 33 (d := d_m_Rule_fits) rfl
theorem Ev.F_m_Rule_repr (e : Ev K mg) : ∃ fd, FunD K "__repr__" "Rule.__repr__" (defArgs m_Rule_repr) (defBody m_Rule_repr) (defScope m_Rule_repr) [] [] (fAd K ("Rule", some "__repr__")) fd := e.fd 34 (d := d_m_Rule_repr) rfl
theorem Ev.F_f_has_places (e : Ev K mg) : ∃ fd, FunD K "has_places" "has_places" (defArgs f_has_places) (defBody f_has_places) (defScope f_has_places) [] [] (fAd K ("has_places", none)) fd := e.fd 35 (d := d_f_has_places) rfl
theorem Ev.F_m_Kept_init (e : Ev K mg) : ∃ fd, FunD K "__init__" "Kept.__init__" (defArgs m_Kept_init) (defBody m_Kept_init) (defScope m_Kept_init) [] [] (fAd K ("Kept", some "__init__")) fd := e.fd 36 (d := d_m_Kept_init) rfl
theorem Ev.F_m_Kept_sketch (e : Ev K mg) : ∃ fd, FunD K "sketch" "Kept.sketch" (defArgs m_Kept_sketch) (defBody m_Kept_sketch) (defScope m_Kept_sketch) [] [] (propG K (ga K "Kept") "sketch") fd := e.fd 37 (d := d_m_Kept_sketch) rfl
theorem Ev.F_m_Kept_seed (e : Ev K mg) : ∃ fd, FunD K "seed" "Kept.seed" (defArgs m_Kept_seed) (defBody m_Kept_seed) (defScope m_Kept_seed) [] [] (propG K (ga K "Kept") "seed") fd := e.fd 38 (d := d_m_Kept_seed) rfl
theorem Ev.F_m_Kept_shown (e : Ev K mg) : ∃ fd, FunD K "shown" "Kept.shown" (defArgs m_Kept_shown) (defBody m_Kept_shown) (defScope m_Kept_shown) [] [] (propG K (ga K "Kept") "shown") fd := e.fd 39 (d := d_m_Kept_shown) rfl
theorem Ev.F_m_Kept_rule (e : Ev K mg) : ∃ fd, FunD K "rule" "Kept.rule" (defArgs m_Kept_rule) (defBody m_Kept_rule) (defScope m_Kept_rule) [] [] (propG K (ga K "Kept") "rule") fd := e.fd 40 (d := d_m_Kept_rule) rfl
theorem Ev.F_m_Kept_use (e : Ev K mg) : ∃ fd, FunD K "use" "Kept.use" (defArgs m_Kept_use) (defBody m_Kept_use) (defScope m_Kept_use) [] [] (fAd K ("Kept", some "use")) fd := e.fd 41 (d := d_m_Kept_use) rfl
theorem Ev.F_m_Kept_put_more (e : Ev K mg) : ∃ fd, FunD K "put_more" "Kept.put_more" (defArgs m_Kept_put_more) (defBody m_Kept_put_more) (defScope m_Kept_put_more) [] [] (fAd K ("Kept", some "put_more")) fd := e.fd 42 (d := d_m_Kept_put_more) rfl
theorem Ev.F_m_Kept_change (e : Ev K mg) : ∃ fd, FunD K "change" "Kept.change" (defArgs m_Kept_change) (defBody m_Kept_change) (defScope m_Kept_change) [] [] (fAd K ("Kept", some "change")) fd := e.fd 43 (d := d_m_Kept_change) rfl
theorem Ev.F_m_Kept_add (e : Ev K mg) : ∃ fd, FunD K "add" "Kept.add" (defArgs m_Kept_add) (defBody m_Kept_add) (defScope m_Kept_add) [] [] (fAd K ("Kept", some "add")) fd := e.fd 44 (d := d_m_Kept_add) rfl
theorem Ev.F_m_Kept_take_in (e : Ev K mg) : ∃ fd, FunD K "take_in" "Kept.take_in" (defArgs m_Kept_take_in) (defBody m_Kept_take_in) (defScope m_Kept_take_in) [] [] (fAd K ("Kept", some "take_in")) fd := e.fd 45 (d := d_m_Kept_take_in) rfl
theorem Ev.F_m_Kept_copy (e : Ev K mg) : ∃ fd, FunD K "copy" "Kept.copy" (defArgs m_Kept_copy) (defBody m_Kept_copy) (defScope m_Kept_copy) [] [] (fAd K ("Kept", some "copy")) fd := e.fd 46 (d := d_m_Kept_copy) rfl
theorem Ev.F_m_Kept_eq (e : Ev K mg) : ∃ fd, FunD K "__eq__" "Kept.__eq__" (defArgs m_Kept_eq) (defBody m_Kept_eq) (defScope m_Kept_eq) [] [] (fAd K ("Kept", some "__eq__")) fd := e.fd 47 (d := d_m_Kept_eq) rfl
theorem Ev.F_m_Note_init (e : Ev K mg) : ∃ fd, FunD K "__init__" "Note.__init__" (defArgs m_Note_init) (defBody m_Note_init) (defScope m_Note_init) [] [] (fAd K ("Note", some "__init__")) fd := e.fd 48 (d := d_m_Note_init) rfl
theorem Ev.F_m_Note_used_keys (e : Ev K mg) : ∃ fd, FunD K "used_keys" "Note.used_keys" (defArgs m_Note_used_keys) (defBody m_Note_used_keys) (defScope m_Note_used_keys) [] [] (fAd K ("Note", some "used_keys")) fd := e.fd 49 (d := d_m_Note_used_keys) rfl
theorem Ev.F_m_Note_shows (e : Ev K mg) : ∃ fd, FunD K "shows" "Note.shows" (defArgs m_Note_shows) (defBody m_Note_shows) (defScope m_Note_shows) [] [] (fAd K ("Note", some "shows")) fd := e.fd 50 (d := d_m_Note_shows) rfl
theorem Ev.F_m_Note_len (e : Ev K mg) : ∃ fd, FunD K "__len__" "Note.__len__" (defArgs m_Note_len) (defBody m_Note_len) (defScope m_Note_len) [] [] (fAd K ("Note", some "__len__")) fd := e.fd 51 (d := d_m_Note_len) rfl
theorem Ev.F_m_Note_eq (e : Ev K mg) : ∃ fd, FunD K "__eq__" "Note.__eq__" (defArgs m_Note_eq) (defBody m_Note_eq) (defScope m_Note_eq) [] [] (fAd K ("Note", some "__eq__")) fd := e.fd 52 (d := d_m_Note_eq) rfl
theorem Ev.F_f_is_seed (e : Ev K mg) : ∃ fd, FunD K "is_seed" "is_seed" (defArgs f_is_seed) (defBody f_is_seed) (defScope f_is_seed) [] [] (fAd K ("is_seed", none)) fd := e.fd 53 (d := d_f_is_seed) rfl
theorem Ev.F_m_Sketch_init (e : Ev K mg) : ∃ fd, FunD K "__init__" "Sketch.__init__" (defArgs m_Sketch_init) (defBody m_Sketch_init) (defScope m_Sketch_init) [] [] (fAd K ("Sketch", some "__init__")) fd := e.fd 54 (d := d_m_Sketch_init) rfl
theorem Ev.F_m_Sketch_seeds (e : Ev K mg) : ∃ fd, FunD K "seeds" "Sketch.seeds" (defArgs m_Sketch_seeds) (defBody m_Sketch_seeds) (defScope m_Sketch_seeds) [] [] (fAd K ("Sketch", some "seeds")) fd := e.fd 55 (d := d_m_Sketch_seeds) rfl
theorem Ev.F_m_Sketch_used_keys (e : Ev K mg) : ∃ fd, FunD K "used_keys" "Sketch.used_keys" (defArgs m_Sketch_used_keys) (defBody m_Sketch_used_keys) (defScope m_Sketch_used_keys) [] [] (fAd K ("Sketch", some "used_keys")) fd := e.fd 56 (d := d_m_Sketch_used_keys) rfl
theorem Ev.F_m_Sketch_want_seed (e : Ev K mg) : ∃ fd, FunD K "want_seed" "Sketch.want_seed" (defArgs m_Sketch_want_seed) (defBody m_Sketch_want_seed) (defScope m_Sketch_want_seed) [] [] (fAd K ("Sketch", some "want_seed")) fd := e.fd 57 (d := d_m_Sketch_want_seed) rfl
theorem Ev.F_m_Sketch_note (e : Ev K mg) : ∃ fd, FunD K "note" "Sketch.note" (defArgs m_Sketch_note) (defBody m_Sketch_note) (defScope m_Sketch_note) [] [] (fAd K ("Sketch", some "note")) fd := e.fd 58 (d := d_m_Sketch_note) rfl
theorem Ev.F_m_Sketch_walk (e : Ev K mg) : ∃ fd, FunD K "walk" "Sketch.walk" (defArgs m_Sketch_walk) (defBody m_Sketch_walk) (defScope m_Sketch_walk) [] [] (fAd K ("Sketch", some "walk")) fd := e.fd 59 (d := d_m_Sketch_walk) rfl
theorem Ev.F_m_Sketch_shows (e : Ev K mg) : ∃ fd, FunD K "shows" "Sketch.shows" (defArgs m_Sketch_shows) (defBody m_Sketch_shows) (defScope m_Sketch_shows) [] [] (fAd K ("Sketch", some "shows")) fd := e.fd 60 (d := d_m_Sketch_shows) rfl
theorem Ev.F_m_Sketch_eq (e : Ev K mg) : ∃ fd, FunD K "__eq__" "Sketch.__eq__" (defArgs m_Sketch_eq) (defBody m_Sketch_eq) (defScope m_Sketch_eq) [] [] (fAd K ("Sketch", some "__eq__")) fd := e.fd 61 (d := d_m_Sketch_eq) rfl
theorem Ev.F_f__law_rng (e : Ev K mg) : ∃ fd, FunD K "_law_rng" "_law_rng" (defArgs f__law_rng) (defBody f__law_rng) (defScope f__law_rng) [] [] (fAd K ("_law_rng", none)) fd := e.fd 62 (d := d_f__law_rng) rfl
theorem Ev.F_f__law_draw (e : Ev K mg) : ∃ fd, FunD K "_law_draw" "_law_draw" (defArgs f__law_draw) (defBody f__law_draw) (defScope f__law_draw) [] [] (fAd K ("_law_draw", none)) fd := e.fd 63 (d := d_f__law_draw) rfl
theorem Ev.F_f__law_choice (e : Ev K mg) : ∃ fd, FunD K "_law_choice" "_law_choice" (defArgs f__law_choice) (defBody f__law_choice) (defScope f__law_choice) [] [] (fAd K ("_law_choice", none)) fd := e.fd 64 (d := d_f__law_choice) rfl
theorem Ev.F_f__law_names (e : Ev K mg) : ∃ fd, FunD K "_law_names" "_law_names" (defArgs f__law_names) (defBody f__law_names) (defScope f__law_names) [] [] (fAd K ("_law_names", none)) fd := e.fd 65 (d := d_f__law_names) rfl
theorem Ev.F_f__law_row_of (e : Ev K mg) : ∃ fd, FunD K "_law_row_of" "_law_row_of" (defArgs f__law_row_of) (defBody f__law_row_of) (defScope f__law_row_of) [] [] (fAd K ("_law_row_of", none)) fd := e.fd 66 (d := d_f__law_row_of) rfl
theorem Ev.F_f__law_model (e : Ev K mg) : ∃ fd, FunD K "_law_model" "_law_model" (defArgs f__law_model) (defBody f__law_model) (defScope f__law_model) [] [] (fAd K ("_law_model", none)) fd := e.fd 67 (d := d_f__law_model) rfl
theorem Ev.F_f__law_sketch (e : Ev K mg) : ∃ fd, FunD K "_law_sketch" "_law_sketch" (defArgs f__law_sketch) (defBody f__law_sketch) (defScope f__law_sketch) [] [] (fAd K ("_law_sketch", none)) fd := e.fd 68 (d := d_f__law_sketch) rfl
theorem Ev.F_f__law_shown (e : Ev K mg) : ∃ fd, FunD K "_law_shown" "_law_shown" (defArgs f__law_shown) (defBody f__law_shown) (defScope f__law_shown) [] [] (fAd K ("_law_shown", none)) fd := e.fd 69 (d := d_f__law_shown) rfl
theorem Ev.F_f__law_added (e : Ev K mg) : ∃ fd, FunD K "_law_added" "_law_added" (defArgs f__law_added) (defBody f__law_added) (defScope f__law_added) [] [] (fAd K ("_law_added", none)) fd := e.fd 70 (d := d_f__law_added) rfl
theorem Ev.F_f__law_number (e : Ev K mg) : ∃ fd, FunD K "_law_number" "_law_number" (defArgs f__law_number) (defBody f__law_number) (defScope f__law_number) [] [] (fAd K ("_law_number", none)) fd := e.fd 71 (d := d_f__law_number) rfl
theorem Ev.F_f__law_table (e : Ev K mg) : ∃ fd, FunD K "_law_table" "_law_table" (defArgs f__law_table) (defBody f__law_table) (defScope f__law_table) [] [] (fAd K ("_law_table", none)) fd := e.fd 72 (d := d_f__law_table) rfl
theorem Ev.F_f__law_turned (e : Ev K mg) : ∃ fd, FunD K "_law_turned" "_law_turned" (defArgs f__law_turned) (defBody f__law_turned) (defScope f__law_turned) [] [] (fAd K ("_law_turned", none)) fd := e.fd 73 (d := d_f__law_turned) rfl
theorem Ev.F_f__law_are_right (e : Ev K mg) : ∃ fd, FunD K "_law_are_right" "_law_are_right" (defArgs f__law_are_right) (defBody f__law_are_right) (defScope f__law_are_right) [] [] (fAd K ("_law_are_right", none)) fd := e.fd 74 (d := d_f__law_are_right) rfl
theorem Ev.F_f__law_right (e : Ev K mg) : ∃ fd, FunD K "_law_right" "_law_right" (defArgs f__law_right) (defBody f__law_right) (defScope f__law_right) [] [] (fAd K ("_law_right", none)) fd := e.fd 75 (d := d_f__law_right) rfl
theorem Ev.F_f_law (e : Ev K mg) : ∃ fd, FunD K "law" "law" (defArgs f_law) (defBody f_law) (defScope f_law) [] [] (fAd K ("law", none)) fd := e.fd 76 (d := d_f_law) rfl
end
end NG

set_option Elab.async false
set_option linter.all false
set_option maxRecDepth 100000
set_option maxHeartbeats 2000000
/-! heaps that grow; sources that are walked; comprehensions and loops over them -/
namespace NG
open PySem PySem.Spec PyProof.Rows L2
/-- all but the object at d stands -/
def But (d : Addr) (H H' : Hp) : Prop := ∀ b o, b ≠ d → H b = some o → H' b = some o
theorem same_upd {H : Hp} {p : Addr} {o : HO} (n : H p = none) : Same H (upd H p o) := fun b u e => by
  rw [upd_ne (ne_of_none e n)]; exact e
theorem _root_.L2.Same.updN {H H' : Hp} {p : Addr} {o : HO} (s : Same H H') (n : H' p = none) : Same H (upd H' p o) := s.trans (same_upd n)
theorem But.of_same {d : Addr} {H H' : Hp} (s : Same H H') : But d H H' := fun b o _ e => s b o e
theorem But.upd {d : Addr} {H : Hp} {o : HO} : But d H (upd H d o) := fun b u hb e => by rw [upd_ne hb]; exact e
theorem But.trans {d : Addr} {H H1 H2 : Hp} (a : But d H H1) (b : But d H1 H2) : But d H H2 := fun c o hc e => b c o hc (a c o hc e)
theorem _root_.L2.Same.butN {d : Addr} {H H1 H2 : Hp} (s : Same H H1) (n : H d = none) (b : But d H1 H2) : Same H H2 := fun c o e => b c o (ne_of_none e n) (s c o e)
theorem _root_.L2.Same.tup {K : PySem.W.Frag} {H H' : Hp} {a : Addr} {xs : List V} (e : Same H H') (h : SqT K H a xs) : SqT K H' a xs := by
  rcases h with (h | ⟨o, h⟩) | h
  · exact .inl (.inl (e _ _ h))
  · exact .inl (.inr ⟨o, e _ _ h⟩)
  · exact .inr h
/-- a relation between a value (at a heap) and a datum -/
abbrev Rl (α : Type) := Hp → V → α → Prop
def Mn {α : Type} (R : Rl α) : Prop := ∀ H H' v a, Same H H' → R H v a → R H' v a
/-- item by item -/
inductive Each {α : Type} (R : Rl α) (H : Hp) : List V → List α → Prop
  | nil : Each R H [] []
  | cons {v : V} {a : α} {vs : List V} {as : List α} : R H v a → Each R H vs as → Each R H (v :: vs) (a :: as)
section
variable {α β : Type} {R : Rl α} {R' : Rl β} {H H' : Hp} {vs : List V} {as : List α}
theorem Each.mono (hm : Mn R) (s : Same H H') (h : Each R H vs as) : Each R H' vs as := by
  induction h with
  | nil => exact .nil
  | cons r _ ih => exact .cons (hm _ _ _ _ s r) ih
theorem Each.imp {R2 : Rl α} {H2 : Hp} (h : Each R H vs as) (f : ∀ v a, a ∈ as → R H v a → R2 H2 v a) : Each R2 H2 vs as := by
  induction h with
  | nil => exact .nil
  | cons r t ih => exact .cons (f _ _ List.mem_cons_self r) (ih fun v a ha => f v a (List.mem_cons_of_mem _ ha))
theorem Each.length (h : Each R H vs as) : vs.length = as.length := by
  induction h with
  | nil => rfl
  | cons _ _ ih => rw [List.length_cons, List.length_cons, ih]
theorem Each.append {ws : List V} {bs : List α} (h : Each R H vs as) (g : Each R H ws bs) : Each R H (vs ++ ws) (as ++ bs) := by
  induction h with
  | nil => exact g
  | cons r _ ih => exact .cons r ih
theorem Each.get (h : Each R H vs as) : ∀ {i : Nat} {v : V}, vs[i]? = some v → ∃ a, as[i]? = some a ∧ R H v a := by
  induction h with
  | nil => intro i v e; simp at e
  | cons r _ ih =>
    intro i v e
    cases i with
    | zero => simp at e; subst e; exact ⟨_, rfl, r⟩
    | succ j => simp only [List.getElem?_cons_succ] at e ⊢; exact ih e
theorem Each.get' (h : Each R H vs as) : ∀ {i : Nat} {a : α}, as[i]? = some a → ∃ v, vs[i]? = some v ∧ R H v a := by
  induction h with
  | nil => intro i v e; simp at e
  | cons r _ ih =>
    intro i v e
    cases i with
    | zero => simp at e; subst e; exact ⟨_, rfl, r⟩
    | succ j => simp only [List.getElem?_cons_succ] at e ⊢; exact ih e
theorem Each.map (f : α → V) (h : ∀ a ∈ as, R H (f a) a) : Each R H (as.map f) as := by
  induction as with
  | nil => exact .nil
  | cons a r ih => exact .cons (h a List.mem_cons_self) (ih fun b hb => h b (List.mem_cons_of_mem _ hb))
theorem Each.eq_map (f : α → V) (h : Each R H vs as) (hf : ∀ v a, R H v a → v = f a) : vs = as.map f := by
  induction h with
  | nil => rfl
  | cons r _ ih => rw [List.map_cons, hf _ _ r, ih]
theorem Each.mem (h : Each R H vs as) {v : V} (hv : v ∈ vs) : ∃ a ∈ as, R H v a := by
  obtain ⟨i, hi, e⟩ := List.mem_iff_getElem.mp hv
  obtain ⟨a, ha, r⟩ := h.get (i := i) (v := v) (by rw [List.getElem?_eq_getElem hi, e])
  exact ⟨a, List.mem_of_getElem? ha, r⟩
theorem mn_each (hm : Mn R) : ∀ H H' vs as, Same H H' → Each R H vs as → Each R H' vs as := fun _ _ _ _ s h => h.mono hm s
end
/-- what an iterator walks: the data bs, while Hs stands -/
structure Src {α : Type} (J : It) (Hs : Hp → Prop) (R : Rl α) (bs : List α) : Prop where
  keep : ∀ H H', Same H H' → Hs H → Hs H'
  go : ∀ i H, Hs H → i < bs.length → J.go i H
  stop : ∀ H, Hs H → J.stop bs.length H
  yld : ∀ i H x H', Hs H → i < bs.length → J.yld i H x H' → ∃ b, bs[i]? = some b ∧ R H' x b ∧ Same H H'
theorem src_list {α : Type} {K : PySem.W.Frag} {a : Addr} {xs : List V} {bs : List α} {R : Rl α} {H0 : Hp} (hm : Mn R) (e : Each R H0 xs bs) :
    Src (Itl K a) (fun H => Same H0 H ∧ SqL K H a xs) R bs where
  keep := fun H H' s h => ⟨h.1.trans s, s.seq h.2⟩
  go := fun i H h hi => by
    have hi' : i < xs.length := by rw [e.length]; exact hi
    exact ⟨xs, xs[i], h.2, List.getElem?_eq_getElem hi'⟩
  stop := fun H h => ⟨xs, h.2, Nat.le_of_eq e.length⟩
  yld := fun i H x H' h hi y => by
    obtain ⟨rfl, y⟩ := y
    obtain ⟨b, hb, r⟩ := e.get (y xs h.2)
    exact ⟨b, hb, hm _ _ _ _ h.1 r, fun _ _ e => e⟩
theorem src_tup {α : Type} {K : PySem.W.Frag} {a : Addr} {xs : List V} {bs : List α} {R : Rl α} {H0 : Hp} (hm : Mn R) (e : Each R H0 xs bs) :
    Src (Itt K a) (fun H => Same H0 H ∧ SqT K H a xs) R bs where
  keep := fun H H' s h => ⟨h.1.trans s, s.tup h.2⟩
  go := fun i H h hi => by
    have hi' : i < xs.length := by rw [e.length]; exact hi
    exact ⟨xs, xs[i], h.2, List.getElem?_eq_getElem hi'⟩
  stop := fun H h => ⟨xs, h.2, Nat.le_of_eq e.length⟩
  yld := fun i H x H' h hi y => by
    obtain ⟨rfl, y⟩ := y
    obtain ⟨b, hb, r⟩ := e.get (y xs h.2)
    exact ⟨b, hb, hm _ _ _ _ h.1 r, fun _ _ e => e⟩
def isI : Rl Int := fun _ v i => v = .int i
def isS : Rl Str := fun _ v s => v = .str s
theorem mn_isI : Mn isI := fun _ _ _ _ _ h => h
theorem mn_isS : Mn isS := fun _ _ _ _ _ h => h
/-- lo, lo + 1, .. (n of them) -/
def iota (lo : Int) (n : Nat) : List Int := (List.range n).map fun (i : Nat) => lo + (i : Int)
theorem iota_length (lo : Int) (n : Nat) : (iota lo n).length = n := by simp [iota]
theorem src_range {lo : Int} {n : Nat} : Src (Itr lo n) (fun _ => True) isI (iota lo n) where
  keep := fun _ _ _ _ => trivial
  go := fun i H _ hi => by rw [iota_length] at hi; exact hi
  stop := fun H _ => by rw [iota_length]; exact Nat.le_refl _
  yld := fun i H x H' _ hi y => by
    obtain ⟨rfl, rfl⟩ := y
    rw [iota_length] at hi
    exact ⟨lo + i, by simp [iota, hi], rfl, fun _ _ e => e⟩
def isC : Rl Nat := fun _ v c => v = .str ⟨#[c]⟩
theorem src_str {x : Str} : Src (Its x) (fun _ => True) isC x.cps.toList where
  keep := fun _ _ _ _ => trivial
  go := fun i H _ hi => by show i < x.cps.size; simpa using hi
  stop := fun H _ => by show x.cps.size ≤ _; simp
  yld := fun i H v H' _ hi y => by
    obtain ⟨rfl, c, hc, rfl⟩ := y
    exact ⟨c, by simpa using hc, rfl, fun _ _ e => e⟩
/-- the keys of a locked dict -/
def isK : Rl Key := fun _ v k => v = kV k
theorem mn_isK : Mn isK := fun _ _ _ _ _ h => h
theorem src_keys {d : Addr} {o : Obj} {kvs : List (Key × V)} : Src (Itk d o kvs) (fun H => H d = some (.frz o (.dK kvs))) isK (kvs.map (·.1)) where
  keep := fun _ _ s h => s _ _ h
  go := fun i H h hi => ⟨h, by simpa using hi⟩
  stop := fun H h => ⟨h, by simp⟩
  yld := fun i H x H' h hi y => by
    obtain ⟨rfl, k, v, e, rfl⟩ := y
    exact ⟨k, by rw [List.getElem?_map, e]; rfl, rfl, fun _ _ e => e⟩
/-- a tuple of two, laid anew -/
def isP2 {α β : Type} (R : Rl α) (S : Rl β) : Rl (α × β) := fun H v p => ∃ T x y, v = .ref T ∧ H T = some (.tup [x, y]) ∧ R H x p.1 ∧ S H y p.2
theorem mn_P2 {α β : Type} {R : Rl α} {S : Rl β} (hR : Mn R) (hS : Mn S) : Mn (isP2 R S) := fun H H' v p s h => by
  obtain ⟨T, x, y, e, t, r1, r2⟩ := h
  exact ⟨T, x, y, e, s _ _ t, hR _ _ _ _ s r1, hS _ _ _ _ s r2⟩
/-- the pairs of a locked dict, its values told by R -/
theorem src_items {α : Type} {R : Rl α} (hm : Mn R) {d : Addr} {o : Obj} {kvs : List (Key × V)} {as : List α} {H0 : Hp} (e : Each R H0 (kvs.map (·.2)) as) :
    Src (Iti d o kvs) (fun H => Same H0 H ∧ H d = some (.frz o (.dK kvs))) (isP2 isK R) ((kvs.map (·.1)).zip as) where
  keep := fun _ _ s h => ⟨h.1.trans s, s _ _ h.2⟩
  go := fun i H h hi => ⟨h.2, by have := e.length; simp at hi this; omega⟩
  stop := fun H h => ⟨h.2, by have := e.length; simp at this ⊢; omega⟩
  yld := fun i H x H' h hi y => by
    obtain ⟨T, k, v, ek, rfl, nT, rfl⟩ := y
    obtain ⟨a, ha, r⟩ := e.get (i := i) (v := v) (by rw [List.getElem?_map, ek]; rfl)
    have s := same_upd (H := H) (p := T) (o := .tup [kV k, v]) nT
    refine ⟨(k, a), ?_, ⟨T, kV k, v, rfl, upd_same, rfl, hm _ _ _ _ (h.1.trans s) r⟩, s⟩
    rw [List.getElem?_zip_eq_some]
    exact ⟨by rw [List.getElem?_map, ek]; rfl, ha⟩
/-- zip of two lists -/
theorem src_zip {α β : Type} {R : Rl α} {S : Rl β} (hR : Mn R) (hS : Mn S) {K : PySem.W.Frag} {a b : Addr} {xs ys : List V} {as : List α} {bs : List β} {H0 : Hp} (e1 : Each R H0 xs as) (e2 : Each S H0 ys bs) :
    Src (Itz K a b) (fun H => Same H0 H ∧ SqL K H a xs ∧ SqL K H b ys) (isP2 R S) (as.zip bs) where
  keep := fun _ _ s h => ⟨h.1.trans s, s.seq h.2.1, s.seq h.2.2⟩
  go := fun i H h hi => by
    have l1 := e1.length; have l2 := e2.length
    rw [List.length_zip] at hi
    have h1 : i < xs.length := by omega
    have h2 : i < ys.length := by omega
    exact ⟨xs, ys, xs[i], ys[i], h.2.1, h.2.2, List.getElem?_eq_getElem h1, List.getElem?_eq_getElem h2⟩
  stop := fun H h => by
    have l1 := e1.length; have l2 := e2.length
    refine ⟨xs, ys, h.2.1, h.2.2, ?_⟩
    rw [List.length_zip]; omega
  yld := fun i H v H' h hi y => by
    obtain ⟨T, x, z, rfl, nT, rfl, y1, y2⟩ := y
    have s := same_upd (H := H) (p := T) (o := .tup [x, z]) nT
    obtain ⟨p, hp, r1⟩ := e1.get (y1 xs h.2.1)
    obtain ⟨q, hq, r2⟩ := e2.get (y2 ys h.2.2)
    refine ⟨(p, q), ?_, ⟨T, x, z, rfl, upd_same, hR _ _ _ _ (h.1.trans s) r1, hS _ _ _ _ (h.1.trans s) r2⟩, s⟩
    rw [List.getElem?_zip_eq_some]
    exact ⟨hp, hq⟩
/-- enumerate of a list -/
theorem src_enum {α : Type} {R : Rl α} (hR : Mn R) {K : PySem.W.Frag} {a : Addr} {xs : List V} {as : List α} {H0 : Hp} (e : Each R H0 xs as) :
    Src (Ite K a) (fun H => Same H0 H ∧ SqL K H a xs) (isP2 isI R) ((iota 0 as.length).zip as) where
  keep := fun _ _ s h => ⟨h.1.trans s, s.seq h.2⟩
  go := fun i H h hi => by
    have l := e.length
    rw [List.length_zip, iota_length] at hi
    have h1 : i < xs.length := by omega
    exact ⟨xs, xs[i], h.2, List.getElem?_eq_getElem h1⟩
  stop := fun H h => by
    have l := e.length
    refine ⟨xs, h.2, ?_⟩
    rw [List.length_zip, iota_length]; omega
  yld := fun i H v H' h hi y => by
    obtain ⟨T, x, rfl, nT, rfl, y1⟩ := y
    have s := same_upd (H := H) (p := T) (o := .tup [.int (i : Nat), x]) nT
    obtain ⟨p, hp, r1⟩ := e.get (y1 xs h.2)
    have hl : i < as.length := (List.getElem?_eq_some_iff.mp hp).1
    refine ⟨((i : Nat), p), ?_, ⟨T, _, x, rfl, upd_same, rfl, hR _ _ _ _ (h.1.trans s) r1⟩, s⟩
    rw [List.getElem?_zip_eq_some]
    exact ⟨by simp [iota, hl], hp⟩
theorem filt {α : Type} (l : List α) : l.filter (fun _ => true) = l := List.filter_eq_self.mpr fun _ _ => rfl
/-- a comprehension over a source -/
theorem lc_src {α β : Type} {J : It} {Hs : Hp → Prop} {R : Rl α} {bs : List α} {g : TG} {tt : TT} {te : TE} {ws : List Nat} {σ : L2.St} {H1 : Hp} {D : Addr} {Qd : Hp → Prop}
    (S : Src J Hs R bs) (R' : Rl β) (f : α → β) (p : α → Bool) (h1 : Hs H1) (nD : H1 D = none) (hz : bs.length < sizeLine)
    (turn : ∀ (i : Nat) (b : α) (x : V) (H : Hp) (acc : List V) (Nx : Hp → Prop), bs[i]? = some b → Same H1 H → Hs H → R H x b → H D = some (.lst acc) → acc.length < sizeLine → H1 D = none →
      (p b = false → ∀ H3, Same H H3 → Nx H3) → (p b = true → ∀ y H4, Same H H4 → (∀ H5, But D H4 H5 → R' H5 y (f b)) → Nx (upd H4 D (.lst (acc ++ [y])))) →
      g x (wipe σ ws) H fun σ2 H2 => wipe σ2 ws = wipe σ ws ∧ tt σ2 H2 fun c H3 => if c = true then te σ2 H3 fun y H4 => ∃ acc', H4 D = some (.lst acc') ∧ acc'.length < sizeLine ∧ Nx (upd H4 D (.lst (acc' ++ [y]))) else Nx H3)
    (done : ∀ H ys, Same H1 H → H D = some (.lst ys) → (∀ H5, But D H H5 → Each R' H5 ys ((bs.filter p).map f)) → Qd H) :
    ∃ W : Nat → Nat → Hp → Prop, (∃ m, W 0 m (upd H1 D (.lst []))) ∧ ∀ i m H, W i m H →
      (J.stop i H ∧ Qd H) ∨ (J.go i H ∧ ∃ Nx : Hp → Prop, (∀ H', Nx H' → ∃ m', m' < m ∧ W (i + 1) m' H') ∧ ∀ x H', J.yld i H x H' → g x (wipe σ ws) H' fun σ2 H2 => wipe σ2 ws = wipe σ ws ∧ tt σ2 H2 fun b H3 =>
        if b = true then te σ2 H3 fun y H4 => ∃ acc, H4 D = some (.lst acc) ∧ acc.length < sizeLine ∧ Nx (upd H4 D (.lst (acc ++ [y]))) else Nx H3) := by
  have hd : ∀ H, Same H1 H → Hs H := fun H s => S.keep _ _ s h1
  refine ⟨fun i m H => m = bs.length - i ∧ i ≤ bs.length ∧ Same H1 H ∧ ∃ ys, H D = some (.lst ys) ∧ ys.length ≤ i ∧ ∀ H5, But D H H5 → Each R' H5 ys (((bs.take i).filter p).map f),
    ⟨bs.length, by simp, Nat.zero_le _, same_upd nD, [], upd_same, Nat.zero_le _, fun _ _ => by simpa using Each.nil⟩, ?_⟩
  rintro i m H ⟨rfl, hi, s, ys, hy, hl, he⟩
  by_cases hlt : i < bs.length
  · refine .inr ⟨S.go i H (hd H s) hlt, _, fun H' z => ⟨bs.length - (i + 1), by omega, z⟩, fun x H' yl => ?_⟩
    obtain ⟨b, hb, r, s'⟩ := S.yld i H x H' (hd H s) hlt yl
    have tk : (bs.take (i + 1)).filter p = (bs.take i).filter p ++ (if p b then [b] else []) := by
      rw [List.take_add_one, hb, List.filter_append]
      simp only [Option.toList, List.filter_cons, List.filter_nil]
    have hyD : H' D = some (.lst ys) := s' _ _ hy
    refine turn i b x H' ys _ hb (s.trans s') (S.keep _ _ s' (hd H s)) r hyD (by omega) nD (fun hp H3 s3 => ?_) (fun hp y H4 s4 r' => ?_)
    · refine ⟨rfl, hlt, s.trans (s'.trans s3), ys, s3 _ _ hyD, by omega, fun H5 b5 => ?_⟩
      rw [tk, hp, if_neg Bool.false_ne_true, List.append_nil]
      exact he H5 ((But.of_same (s'.trans s3)).trans b5)
    · refine ⟨rfl, hlt, ?_, ys ++ [y], upd_same, by rw [List.length_append]; simp; omega, fun H5 b5 => ?_⟩
      · exact Same.butN (s.trans (s'.trans s4)) nD But.upd
      · rw [tk, hp, if_pos rfl, List.map_append]
        refine Each.append ?_ (.cons ?_ .nil)
        · exact he H5 (((But.of_same (s'.trans s4)).trans But.upd).trans b5)
        · exact r' H5 (But.upd.trans b5)
  · have ei : i = bs.length := by omega
    subst ei
    rw [List.take_length] at he
    exact .inl ⟨S.stop H (hd H s), done H ys s hy he⟩
/-- a for over a source, by a word -/
theorem for_src {α : Type} {J : It} {Hs : Hp → Prop} {R : Rl α} {bs : List α} {g : TG} {tb : TS} {D : Ends} {σ : L2.St} {H1 : Hp}
    (S : Src J Hs R bs) (Pv : Nat → L2.St → Hp → Prop) (h0 : Pv 0 σ H1) (hh : ∀ i σ H, Pv i σ H → Hs H)
    (turn : ∀ (i : Nat) (b : α) (x : V) (σ : L2.St) (H H' : Hp), bs[i]? = some b → i < bs.length → Pv i σ H → Same H H' → R H' x b → g x σ H' fun σ2 H2 => tb { D with nx := Pv (i + 1), ct := Pv (i + 1), bk := D.nx } σ2 H2)
    (done : ∀ σ H, Pv bs.length σ H → D.nx σ H) :
    ∃ W : Nat → Nat → L2.St → Hp → Prop, (∃ m, W 0 m σ H1) ∧ ∀ i m σ H, W i m σ H →
      (J.stop i H ∧ D.nx σ H) ∨ (J.go i H ∧ ∃ N : L2.St → Hp → Prop, (∀ σ' H', N σ' H' → ∃ m', m' < m ∧ W (i + 1) m' σ' H') ∧ ∀ x H', J.yld i H x H' → g x σ H' fun σ2 H2 => tb { D with nx := N, ct := N, bk := D.nx } σ2 H2) := by
  refine ⟨fun i m σ H => m = bs.length - i ∧ i ≤ bs.length ∧ Pv i σ H, ⟨bs.length, by simp, Nat.zero_le _, h0⟩, ?_⟩
  rintro i m σ H ⟨rfl, hi, p⟩
  have hs := hh i σ H p
  by_cases hlt : i < bs.length
  · refine .inr ⟨S.go i H hs hlt, Pv (i + 1), fun σ' H' z => ⟨bs.length - (i + 1), by omega, rfl, hlt, z⟩, fun x H' yl => ?_⟩
    obtain ⟨b, hb, r, s'⟩ := S.yld i H x H' hs hlt yl
    exact turn i b x σ H H' hb hlt p s' r
  · have ei : i = bs.length := by omega
    subst ei
    exact .inl ⟨S.stop H hs, done σ H p⟩
end NG

set_option Elab.async false
set_option linter.all false
set_option maxRecDepth 100000
set_option maxHeartbeats 2000000
/-! operators of own classes, own exceptions' base initialisers -/
namespace NG
open PySem PySem.Spec PyProof.Rows L2
theorem relV_notNI {x : V} {u : Value} (r : RelV x u) : u ≠ .notImplemented := by
  cases x with
  | non => cases r; exact nofun
  | bl _ => cases r; exact nofun
  | int _ => obtain ⟨t, rfl⟩ := r; exact nofun
  | str _ => obtain ⟨t, rfl⟩ := r; exact nofun
  | byt _ => obtain ⟨t, rfl⟩ := r; exact nofun
  | flt _ => obtain ⟨t, rfl⟩ := r; exact nofun
  | ref _ => cases r; exact nofun
  | ty _ => cases r; exact nofun
theorem cmpBack_of {Q : Value → Shared → Prop} {v : Value} {s : Shared} (h : v ≠ .notImplemented) (q : Q v s) : PySem.W.CmpBack Q v s := by
  cases v <;> first | exact q | exact absurd rfl h
section
variable {X : Cx} {CX : CXT} {n : Nat} {C f : Addr} {fd : FuncData} {ps : List Str} {sp : Sp} {E : XK}
theorem cmpBack_EP {pins : List (Addr × Obj)} {σ : L2.St} {Q : VK} {v : Value} {s : Shared} (h : EP X pins σ Q v s) : PySem.W.CmpBack (EP X pins σ Q) v s := by
  obtain ⟨x, H', I, r, q⟩ := h
  exact cmpBack_of (relV_notNI r) ⟨x, H', I, r, q⟩
/-- x op y, both instances of C, by C's own method -/
def rOwn2 (C : Addr) (sp : Sp) (E : XK) : V → V → Hp → VK → Prop := fun x y H Q => ∃ a b dx dy fs gs, x = .ref a ∧ y = .ref b ∧ H a = some (.ins C dx fs) ∧ H b = some (.ins C dy gs) ∧ sp [x, y] H Q E
theorem op_own2 {op : Operator} (F : FnOk X.prog X.w X.K X.mg X.base CX n f fd ps sp) (hr : Room n X.A) (hc : PySem.W.selfFirst X.K C = true)
    (hs : PySem.W.findIn X.K (.ref C) (PySem.dunder op.info.2) = some (some (.ref f))) (hf : PySem.W.isFn X.K (.ref f) = true) (hb : Binds X.K fd ps []) (hx : Passes CX X E) :
    OpR X (binaryOp op) (rOwn2 C sp E) := by
  intro pins s σ H x y v u Q I rx ry h
  obtain ⟨a, b, dx, dy, fs, gs, rfl, rfl, ha, hb', q⟩ := h
  cases rx
  cases ry
  obtain ⟨mA, J, _⟩ := ins_get I.hok ha
  obtain ⟨mB, J', _⟩ := ins_get I.hok hb'
  obtain ⟨od, J, _⟩ := J.look
  obtain ⟨od', J', _⟩ := J'.look
  obtain ⟨m, hF⟩ := I.fr
  refine PySem.W.binop_K hF I.ok.mod.kin J J'.type hc hs hf ?_
  exact thn (run_fn (us := [.ref a, .ref b]) (vs := [.ref a, .ref b]) (ds := []) (dvs := []) F hr hb .nil hx I (.cons rfl (.cons rfl .nil)) q) fun v s' z => cmpBack_EP z
/-- x op n, n an int -/
def rOwnI (C : Addr) (sp : Sp) (E : XK) : V → V → Hp → VK → Prop := fun x y H Q => ∃ a dx fs i, x = .ref a ∧ y = .int i ∧ H a = some (.ins C dx fs) ∧ sp [x, y] H Q E
theorem op_ownI {op : Operator} {fo ro rc : Option Value} (F : FnOk X.prog X.w X.K X.mg X.base CX n f fd ps sp) (hr : Room n X.A) (hc : PySem.W.selfFirst X.K C = true)
    (hs : PySem.W.findIn X.K (.ref C) (PySem.dunder op.info.2) = some (some (.ref f))) (hf : PySem.W.isFn X.K (.ref f) = true) (hR : PySem.W.findIn X.K (.ref C) (dunderR op.info.2) = some rc) (hp : rc = none ∨ ∃ g : Addr, rc = some (.ref g))
    (h1 : PySem.W.findIn X.K (.type "int") (PySem.dunder op.info.2) = some fo) (h2 : PySem.W.findIn X.K (.type "int") (dunderR op.info.2) = some ro) (hsub : PySem.W.subIn X.K (.type "int") (.ref C) = some false)
    (hb : Binds X.K fd ps []) (hx : Passes CX X E) :
    OpR X (binaryOp op) (rOwnI C sp E) := by
  intro pins s σ H x y v u Q I rx ry h
  obtain ⟨a, dx, fs, i, rfl, rfl, ha, q⟩ := h
  cases rx
  obtain ⟨t, rfl⟩ := ry
  obtain ⟨mA, J, _⟩ := ins_get I.hok ha
  obtain ⟨od, J, _⟩ := J.look
  obtain ⟨m, hF⟩ := I.fr
  refine PySem.W.ksp_binT (T := "int") hF I.ok.mod.kin J rfl hc hs hf hR hp h1 h2 hsub ?_
  exact thn (run_fn (us := [.ref a, .int i t]) (vs := [.ref a, .int i]) (ds := []) (dvs := []) F hr hb .nil hx I (.cons rfl (.cons ⟨t, rfl⟩ .nil)) q) fun v s' z => cmpBack_EP z
end
end NG
namespace PySem.W
open PySem PySem.Calls PyProof.Rows
section
variable {prog : Program} {w : World} {A : Around} {E : Value → Shared → Prop} {s : Shared} {K : Frag} {x y C D L f : Addr} {h₀ : Heap} {m : Str → Option Value} {ox oy : Obj} {od oe : Option Obj}
/-- x op y, y an instance of another own class -/
theorem ng_binC {op : Operator} {g : Addr} {rc rd : Option Value} {Q : Value → Shared → Prop} (F : Fr h₀ L s.heap m) (X₀ : K.In h₀) (I : InstAt s.heap x ox C od) (I' : InstAt s.heap y oy D oe) (hne : D ≠ C) (hc : selfFirst K C = true) (hd : selfFirst K D = true)
    (hs : findIn K (.ref C) (PySem.dunder op.info.2) = some (some (.ref f))) (hf : isFn K (.ref f) = true) (hr : findIn K (.ref C) (dunderR op.info.2) = some rc) (hp : rc = none ∨ ∃ g : Addr, rc = some (.ref g))
    (h1 : findIn K (.ref D) (PySem.dunder op.info.2) = some (some (.ref g))) (h2 : findIn K (.ref D) (dunderR op.info.2) = some rd) (hp2 : rd = none ∨ ∃ g : Addr, rd = some (.ref g)) (hsub : subIn K (.ref D) (.ref C) = some false)
    (h : wpAny (model prog w) A (call (.ref f) [.ref x, .ref y]) (CmpBack Q) E s) : wpAny (model prog w) A (binaryOp op (.ref x) (.ref y)) Q E s := by
  have X := X₀.keeps F.keep
  obtain ⟨cd, rest, hcd, hm⟩ := ksp_first hc
  obtain ⟨cd', rest', hcd', hm'⟩ := ksp_first hd
  rcases hi : op.info with ⟨sym, nm'⟩
  rw [hi] at hs hr h1 h2
  dsimp only at hs hr h1 h2
  have one := ksp_try X I hs hf h
  obtain ⟨hh, g', d, tt, os⟩ := s
  have L1 : Looks (model prog w) hh (typeOf (.ref x)) (.ref C) := I.type
  have L2 : Looks (model prog w) hh (typeOf (.ref y)) (.ref D) := I'.type
  have L3 : Looks (model prog w) hh (fillsNumberSlot (.ref C) nm') true := fills_K X hcd hm hs
  have L4 : Looks (model prog w) hh (fillsNumberSlot (.ref D) nm') true := fills_K X hcd' hm' h1
  have L5 : Looks (model prog w) hh (isSubtype (.ref D) (.ref C)) false := looks_subIn X hsub
  have L6 : Looks (model prog w) hh (numberSlotInPython (.ref C) nm') true := ksp_inPy X hs hr hp
  have L7 : Looks (model prog w) hh (numberSlotInPython (.ref D) nm') true := ksp_inPy X h1 h2 hp2
  have hne : (Value.ref C == Value.ref D) = false := Bool.eq_false_iff.mpr fun q => by
    have := beq_iff_eq.mp q
    injection this with e
    exact hne e.symm
  simp only [binaryOp, hi]
  refine wpAny_holding (wpAny_bind ?_)
  unfold binaryOp1
  refine wpAny_bind (L1.at (wpAny_bind (L2.at (wpAny_bind (L3.at ?_)))))
  simp only [hne, Bool.false_eq_true, if_false]
  ksp_lk
  refine wpAny_mono one (fun r s' hr' => ?_) fun _ _ e => e
  obtain ⟨v, rfl, hq⟩ := hr'
  ksp_lk
  exact hq
end
end PySem.W
namespace NG
open PySem PySem.Spec PyProof.Rows L2
section
variable {X : Cx} {CX : CXT} {n : Nat} {C D f g : Addr} {fd : FuncData} {ps : List Str} {sp : Sp} {E : XK}
/-- x op y, x of C, y of D -/
def rOwnC (C D : Addr) (sp : Sp) (E : XK) : V → V → Hp → VK → Prop := fun x y H Q => ∃ a b dx dy fs gs, x = .ref a ∧ y = .ref b ∧ H a = some (.ins C dx fs) ∧ H b = some (.ins D dy gs) ∧ sp [x, y] H Q E
theorem op_ownC {op : Operator} {rc rd : Option Value} (F : FnOk X.prog X.w X.K X.mg X.base CX n f fd ps sp) (hr : Room n X.A) (hne : D ≠ C) (hc : PySem.W.selfFirst X.K C = true) (hd : PySem.W.selfFirst X.K D = true)
    (hs : PySem.W.findIn X.K (.ref C) (PySem.dunder op.info.2) = some (some (.ref f))) (hf : PySem.W.isFn X.K (.ref f) = true) (hR : PySem.W.findIn X.K (.ref C) (dunderR op.info.2) = some rc) (hp : rc = none ∨ ∃ g : Addr, rc = some (.ref g))
    (h1 : PySem.W.findIn X.K (.ref D) (PySem.dunder op.info.2) = some (some (.ref g))) (h2 : PySem.W.findIn X.K (.ref D) (dunderR op.info.2) = some rd) (hp2 : rd = none ∨ ∃ g : Addr, rd = some (.ref g)) (hsub : PySem.W.subIn X.K (.ref D) (.ref C) = some false)
    (hb : Binds X.K fd ps []) (hx : Passes CX X E) :
    OpR X (binaryOp op) (rOwnC C D sp E) := by
  intro pins s σ H x y v u Q I rx ry h
  obtain ⟨a, b, dx, dy, fs, gs, rfl, rfl, ha, hb', q⟩ := h
  cases rx
  cases ry
  obtain ⟨mA, J, _⟩ := ins_get I.hok ha
  obtain ⟨mB, J', _⟩ := ins_get I.hok hb'
  obtain ⟨od, J, _⟩ := J.look
  obtain ⟨od', J', _⟩ := J'.look
  obtain ⟨m, hF⟩ := I.fr
  refine PySem.W.ng_binC hF I.ok.mod.kin J J' hne hc hd hs hf hR hp h1 h2 hp2 hsub ?_
  exact thn (run_fn (us := [.ref a, .ref b]) (vs := [.ref a, .ref b]) (ds := []) (dvs := []) F hr hb .nil hx I (.cons rfl (.cons rfl .nil)) q) fun v s' z => cmpBack_EP z
/-- -x, by the class's own __neg__ -/
theorem un_own (F : FnOk X.prog X.w X.K X.mg X.base CX n f fd ps sp) (hr : Room n X.A)
    (hs : PySem.W.findIn X.K (.ref C) "__neg__" = some (some (.ref f))) (hf : PySem.W.isFn X.K (.ref f) = true) (hb : Binds X.K fd ps []) (hx : Passes CX X E) :
    UnR X (unaryOp .USub) (fun x H Q => ∃ a dx fs, x = .ref a ∧ H a = some (.ins C dx fs) ∧ sp [x] H Q E) := by
  intro pins s σ H x v Q I rx h
  obtain ⟨a, dx, fs, rfl, ha, q⟩ := h
  cases rx
  obtain ⟨mA, J, _⟩ := ins_get I.hok ha
  obtain ⟨od, J, _⟩ := J.look
  obtain ⟨m, hF⟩ := I.fr
  refine PySem.W.ksp_neg hF I.ok.mod.kin J hs hf ?_
  exact run_fn (us := [.ref a]) (vs := [.ref a]) (ds := []) (dvs := []) F hr hb .nil hx I (.cons rfl .nil) q
end
/-- Base.__init__(self, ..), Base an own class over ValueError -/
theorem pe_baseinit {X : Cx} {e : Expr} {es : List Expr} {ta : TA} {p1 p2 pos : Pos} {x : Str} {B : Addr} {pl : Sem Bool} (hg : Gl X x) (hm : X.mg x = some (.ref B)) (hsp : PySem.W.specialIn X.K (.ref B) "__getattribute__" = some (some (.builtin "type.__getattribute__")))
    (hrd : PySem.W.readsIn X.K B (.type "type") = true)
    (vV : PySem.W.findCls X.K (.ref B) (.type "type") "__init__" = some (.val (.builtin "ValueError.__init__"))) (ha : PA X (e :: es) ta)
    (hdb : (x == ("__debug__" : Str)) = false := by decide)
    (hc : eval (.Call (.Attribute (.Name x p1) "__init__" p2) (e :: es) [] pos) X.env = (do
      let ov ← eval (.Name x p1) X.env
      standAt p2.atName
      let (f, first) ← holding [ov] (getMethod ov "__init__" pl)
      callWith pos f first (backTo pos (starEach (e :: es) X.env)) (backToKw pos (keywordEach [] X.env))) := by rfl)
    (he : starEach (e :: es) X.env = (false, eval e X.env) :: starEach es X.env := by rfl) (hpl : (backTo pos (starEach es X.env)).any (·.1) = false := by rfl) :
    PE X (.Call (.Attribute (.Name x p1) "__init__" p2) (e :: es) [] pos) (tVeI X.K ta) := by
  refine ⟨fun pins s σ H Q I h => ?_⟩
  refine PySem.W.methodCall_KW (ld_glob I hg hm ?_ hdb) hc
  refine PySem.W.method_cls I.kIn hsp (PySem.W.cls_value I.kIn hrd vV (by decide +kernel) ?_)
  show wpAny _ _ (callWith pos (Value.builtin "ValueError.__init__") [] (backTo pos (starEach (e :: es) X.env)) []) _ _ _
  refine PyProof.Rows.callWith_method1 (thn (ha.run pos pins _ σ H _ (I.tok _) h) fun us s1 ⟨vs, H1, I1, r1, a, C, ws, ev, hl, T, ea, q⟩ => ?_) he hpl
  subst ev
  cases r1 with
  | @cons _ u0 _ ur ra rw' =>
    obtain rfl : u0 = Value.ref a := ra
    have hlen : ur.length ≤ sizeLine := by
      rw [← Paired.length rw', sizeLine_eq]
      omega
    exact oinit_ok T I1 ea hlen fun s' J => ⟨.non, H1, J, rfl, q⟩
end NG

set_option Elab.async false
set_option linter.all false
set_option maxRecDepth 100000
set_option maxHeartbeats 2000000
/-! Ratios -/
namespace NG
open PySem PySem.Spec PyProof.Rows L2 He
/-! ### the plain law -/
/-- top and bottom below 2^n -/
def Bd (n : Nat) (r : Rat) : Prop := r.num.natAbs < 2 ^ n ∧ r.den < 2 ^ n
theorem Bd.mono {n m : Nat} {r : Rat} (h : Bd n r) (hm : n ≤ m) : Bd m r :=
  ⟨Nat.lt_of_lt_of_le h.1 (Nat.pow_le_pow_right (by decide) hm), Nat.lt_of_lt_of_le h.2 (Nat.pow_le_pow_right (by decide) hm)⟩
theorem mk_num {t b : Int} (hb : 0 < b) : (mkRat t b.toNat).num = t / (Nat.gcd t.natAbs b.natAbs : Int) := by
  have h0 : b.toNat ≠ 0 := by omega
  rw [Rat.num_mkRat, if_neg h0, Nat.gcd_comm, show b.toNat = b.natAbs by omega]
theorem mk_den {t b : Int} (hb : 0 < b) : ((mkRat t b.toNat).den : Int) = b / (Nat.gcd t.natAbs b.natAbs : Int) := by
  have h0 : b.toNat ≠ 0 := by omega
  rw [Rat.den_mkRat, if_neg h0, Nat.gcd_comm, show b.toNat = b.natAbs by omega, Int.natCast_ediv]
  congr 1
  omega
theorem bd_mk {n : Nat} {t b : Int} (hb : 0 < b) (h1 : t.natAbs < 2 ^ n) (h2 : b.natAbs < 2 ^ n) : Bd n (mkRat t b.toNat) := by
  have e1 := mk_num (t := t) hb
  have e2 := mk_den (t := t) hb
  refine ⟨?_, ?_⟩
  · rw [e1]
    refine Nat.lt_of_le_of_lt ?_ h1
    rw [Int.natAbs_ediv_of_dvd]
    · exact Nat.div_le_self _ _
    · exact Int.natCast_dvd_natCast.mpr (Nat.gcd_dvd_left _ _) |> fun z => Int.dvd_natAbs.mp z
  · have : (mkRat t b.toNat).den ≤ b.natAbs := by
      have h0 : b.toNat ≠ 0 := by omega
      rw [Rat.den_mkRat, if_neg h0]
      refine Nat.le_trans (Nat.div_le_self _ _) (by omega)
    omega
theorem rat_add (a b : Rat) : mkRat (a.num * b.den + b.num * a.den) ((a.den : Int) * b.den).toNat = a + b := by
  rw [Rat.add_def']
  congr 1
theorem rat_mul (a b : Rat) : mkRat (a.num * b.num) ((a.den : Int) * b.den).toNat = a * b := by
  rw [Rat.mul_def']
  congr 1
theorem den_pos (a : Rat) : (0 : Int) < a.den := by have := a.den_nz; omega
theorem pow_two_pos (n : Nat) : 0 < 2 ^ n := Nat.pow_pos (by decide)
theorem bd_add {n m : Nat} {a b : Rat} (ha : Bd n a) (hb : Bd m b) : Bd (n + m + 1) (a + b) := by
  rw [← rat_add]
  have h1 : (a.num * (b.den : Int)).natAbs < 2 ^ (n + m) := by
    rw [Int.natAbs_mul, Nat.pow_add]; exact Nat.mul_lt_mul'' ha.1 (by simpa using hb.2)
  have h2 : (b.num * (a.den : Int)).natAbs < 2 ^ (n + m) := by
    rw [Int.natAbs_mul, Nat.pow_add, Nat.mul_comm]; exact Nat.mul_lt_mul'' (by simpa using ha.2) hb.1
  have h3 : ((a.den : Int) * (b.den : Int)).natAbs < 2 ^ (n + m) := by
    rw [Int.natAbs_mul, Nat.pow_add]; exact Nat.mul_lt_mul'' (by simpa using ha.2) (by simpa using hb.2)
  refine bd_mk (Int.mul_pos (den_pos a) (den_pos b)) ?_ ?_
  · rw [Nat.pow_succ]; omega
  · rw [Nat.pow_succ]; omega
theorem bd_mul {n m : Nat} {a b : Rat} (ha : Bd n a) (hb : Bd m b) : Bd (n + m) (a * b) := by
  rw [← rat_mul]
  have h1 : (a.num * b.num).natAbs < 2 ^ (n + m) := by
    rw [Int.natAbs_mul, Nat.pow_add]; exact Nat.mul_lt_mul'' ha.1 hb.1
  have h3 : ((a.den : Int) * (b.den : Int)).natAbs < 2 ^ (n + m) := by
    rw [Int.natAbs_mul, Nat.pow_add]; exact Nat.mul_lt_mul'' (by simpa using ha.2) (by simpa using hb.2)
  exact bd_mk (Int.mul_pos (den_pos a) (den_pos b)) h1 h3
theorem gcd_step {a b : Nat} (hb : b ≠ 0) : Nat.gcd b (a % b) = Nat.gcd a b := by
  rw [Nat.gcd_comm a b, Nat.gcd_rec b a, Nat.gcd_comm]
/-! ### what stands at an address -/
def rfs (t b : Int) : List (Str × V) := putF "own_bottom" (.int b) (putF "own_top" (.int t) [])
theorem ne_tb : ¬ (("own_top" : Str) = "own_bottom") := by decide +kernel
theorem rfs_top (t b : Int) : (rfs t b).lookup ("own_top" : Str) = some (.int t) := by
  unfold rfs; rw [lookup_putF, if_neg ne_tb, lookup_putF, if_pos rfl]
theorem rfs_bot (t b : Int) : (rfs t b).lookup ("own_bottom" : Str) = some (.int b) := by
  unfold rfs; rw [lookup_putF, if_pos rfl]
theorem rfs_no (t b : Int) {m : Str} (h1 : ¬ m = "own_bottom") (h2 : ¬ m = "own_top") : (rfs t b).lookup m = none := by
  unfold rfs; rw [lookup_putF, if_neg h1, lookup_putF, if_neg h2]; rfl
theorem rfs_len (t b : Int) : (rfs t b).length ≤ 2 := by
  unfold rfs
  have h1 := length_putF "own_bottom" (.int b) (putF "own_top" (.int t) [])
  have h2 := length_putF "own_top" (.int t) []
  simp at h2; omega
variable {P : Program} {w : World} {K : Fg} {mg : Str → Option Value} {base : Heap}
/-- at a: the Ratio r -/
def RtA (K : Fg) (H : Hp) (a : Addr) (r : Rat) : Prop := ∃ dx, H a = some (.ins (ga K "Ratio") dx (rfs r.num r.den))
def Rt (K : Fg) : Rl Rat := fun H v r => ∃ a, v = .ref a ∧ RtA K H a r
/-- an int or a Ratio -/
def Nu (K : Fg) : Rl Rat := fun H v r => (∃ i : Int, v = .int i ∧ r = i) ∨ Rt K H v r
theorem mn_Rt : Mn (Rt K) := fun _ _ _ _ s ⟨a, e, dx, h⟩ => ⟨a, e, dx, s _ _ h⟩
theorem mn_Nu : Mn (Nu K) := fun _ _ _ _ s h => h.imp id fun h => mn_Rt _ _ _ _ s h
theorem Rt.but {d : Addr} {H H' : Hp} {v : V} {r : Rat} {xs : List V} (h : Rt K H v r) (hd : H d = some (.lst xs)) (b : But d H H') : Rt K H' v r := by
  obtain ⟨a, e, dx, h⟩ := h
  exact ⟨a, e, dx, b _ _ (ne_of h hd (by intro z; cases z)) h⟩
theorem Nu.but {d : Addr} {H H' : Hp} {v : V} {r : Rat} {xs : List V} (h : Nu K H v r) (hd : H d = some (.lst xs)) (b : But d H H') : Nu K H' v r :=
  h.imp id fun h => h.but hd b
/-! ### a def that callers may use -/
def Has (P : Program) (w : World) (K : Fg) (mg : Str → Option Value) (base : Heap) (k : Nat) (x : Str) (ps : List Str) (sp : Sp) : Prop :=
  ∃ f fd, mg x = some (.ref f) ∧ FnOk P w K mg base CX0 k f fd ps sp ∧ PySem.W.keepIn K (.ref f) = true ∧ Binds K fd ps []
def HasM (P : Program) (w : World) (K : Fg) (mg : Str → Option Value) (base : Heap) (k : Nat) (C : Str) (m : Str) (ps : List Str) (sp : Sp) : Prop :=
  ∃ fd, Meth K (ga K C) m (ma K (ga K C) m) ∧ FnOk P w K mg base CX0 k (ma K (ga K C) m) fd ps sp ∧ Binds K fd ps []
/-- a class whose __init__ keeps sp; dvs: the defaults that fill up -/
def HasC (P : Program) (w : World) (K : Fg) (mg : Str → Option Value) (base : Heap) (k : Nat) (C : Str) (ps : List Str) (dvs : List V) (sp : Sp) : Prop :=
  ∃ fd ds, Mk K (ga K C) (ma K (ga K C) "__init__") ∧ mg C = some (.ref (ga K C)) ∧ FnOk P w K mg base CX0 k (ma K (ga K C) "__init__") fd ps sp ∧ Vals dvs ds ∧ Binds K fd ps ds
theorem _root_.L2.FunD.okD {x qual : Str} {params : Arguments} {body : List Stmt} {scope : Scope} {dvs : List V} {kws : List (Str × V)} {f : Addr} {fd : FuncData} {N ps : List Str} {k : Nat} {sp : Sp} (F : FunD K x qual params body scope dvs kws f fd) (S : FnScope N ps scope)
    (len : ∀ vs H Q E, sp vs H Q E → vs.length = ps.length)
    (hbody : ∀ (cdv : Value) (A : Around) (outer : List Env) (s : Shared) (H : Hp) (vs : List V) (Q : VK) (E : XK), Room k (A.deeper (envOfC qual scope s.heap.objs.size f cdv)) → sp vs H Q E →
      ∃ t, PSs (cxOf CX0 P w K mg base N qual scope f cdv A outer s H E).nox body t ∧ t { nx := fun _ H' => Q .non H', rt := Q } (start N vs) H) : FnOk P w K mg base CX0 (k + 1) f fd ps sp :=
  F.ok S len fun cdv A outer s H vs Q E hr h => let ⟨t, h1, h2⟩ := hbody cdv A outer s H vs Q E hr h; ⟨t, h1.nox, h2⟩
theorem kb_ii : kitB "int" "int" = some true := by decide +kernel
theorem kb_ib : kitB "int" "bool" = some false := by decide +kernel
/-! ### is_integer -/
def spIsInt (K : Fg) : Sp := fun vs H Q _ => ∃ v, vs = [v] ∧ ((∃ i, v = .int i ∧ Q (.bl true) H) ∨ (∃ r, Rt K H v r ∧ Q (.bl false) H))
theorem sc_is_integer : FnScope ["value"] ["value"] (defScope f_is_integer) := ⟨rfl, rfl, rfl, by decide +kernel, rfl, by decide +kernel, by decide +kernel⟩
theorem has_is_integer (e : Ev K mg) : Has P w K mg base 1 "is_integer" ["value"] (spIsInt K) := by
  obtain ⟨fd, F⟩ := e.F_f_is_integer
  refine ⟨_, fd, e.g_is_integer, ?_, F.kp, F.bindsN fun _ _ _ _ _ _ us hl => match us, hl with | [_], _ => rfl⟩
  refine F.okD sc_is_integer (fun vs H Q E h => ?_) (fun cdv A outer s H vs Q E hr h => ?_)
  · obtain ⟨v, rfl, _⟩ := h; rfl
  · obtain ⟨v, rfl, h⟩ := h
    refine ⟨_, pss_one (ps_ret (pe_and (pe_callB call_isi rfl e.b_isinstance boot_isinstance (pa_cons (pv 0) (pa_cons (pe_bltn (v := .ty "int") rfl e.b_int boot_int rfl) pa_nil)))
      (pe_one (pe_not (pe_callB call_isi rfl e.b_isinstance boot_isinstance (pa_cons (pv 0) (pa_cons (pe_bltn (v := .ty "bool") rfl e.b_bool boot_bool rfl) pa_nil))))))), ?_⟩
    rcases h with ⟨i, rfl, q⟩ | ⟨r, ⟨a, rfl, dx, ha⟩, q⟩
    · refine ⟨_, rfl, _, .ty "int", _, _, _, rfl, .ty _, .base (.int i), kit_ty kb_ii, true, rfl, ?_⟩
      refine iteT ?_
      exact ⟨_, rfl, _, .ty "bool", _, _, _, rfl, .ty _, .base (.int i), kit_ty kb_ib, false, rfl, q⟩
    · refine ⟨_, rfl, _, .ty "int", _, _, _, rfl, .ty _, .base (e.ty_Ratio.ty ha), e.k_Ratio_int, false, rfl, ?_⟩
      exact iteF q
/-! ### is_number, want_number -/
def spIsNum (K : Fg) : Sp := fun vs H Q _ => ∃ v r, vs = [v] ∧ Nu K H v r ∧ Q (.bl true) H
theorem sc_is_number : FnScope ["value"] ["value"] (defScope f_is_number) := ⟨rfl, rfl, rfl, by decide +kernel, rfl, by decide +kernel, by decide +kernel⟩
theorem has_is_number (e : Ev K mg) : Has P w K mg base 2 "is_number" ["value"] (spIsNum K) := by
  obtain ⟨fd, F⟩ := e.F_f_is_number
  refine ⟨_, fd, e.g_is_number, ?_, F.kp, F.bindsN fun _ _ _ _ _ _ us hl => match us, hl with | [_], _ => rfl⟩
  obtain ⟨f1, d1, m1, G1, k1, b1⟩ := has_is_integer (P := P) (w := w) (base := base) e
  refine F.okD sc_is_number (fun vs H Q E h => ?_) (fun cdv A outer s H vs Q E hr h => ?_)
  · obtain ⟨v, r, rfl, _⟩ := h; rfl
  · obtain ⟨v, r, rfl, hv, q⟩ := h
    refine ⟨_, pss_one (ps_ret (pe_or (pe_call G1 hr rfl m1 k1 b1 .nil pass0 (pa_cons (pv 0) pa_nil))
      (pe_one (pe_callB call_isi rfl e.b_isinstance boot_isinstance (pa_cons (pv 0) (pa_cons (pe_glob rfl e.g_Ratio (v := .ref (ga K "Ratio")) rfl) pa_nil)))))), ?_⟩
    refine ⟨_, rfl, v, rfl, ?_⟩
    rcases hv with ⟨i, rfl, _⟩ | hv
    · exact .inl ⟨i, rfl, true, rfl, iteT q⟩
    · refine .inr ⟨r, hv, false, rfl, iteF ?_⟩
      obtain ⟨a, rfl, dx, ha⟩ := hv
      exact ⟨_, rfl, _, _, _, _, _, rfl, .own _, .base (e.ty_Ratio.ty ha), e.k_Ratio_Ratio, q⟩
def spWant (R : Hp → V → Prop) : Sp := fun vs H Q _ => ∃ v, vs = [v] ∧ R H v ∧ Q .non H
theorem sc_want_number : FnScope ["value"] ["value"] (defScope f_want_number) := ⟨rfl, rfl, rfl, by decide +kernel, rfl, by decide +kernel, by decide +kernel⟩
theorem has_want_number (e : Ev K mg) : Has P w K mg base 3 "want_number" ["value"] (spWant fun H v => ∃ r, Nu K H v r) := by
  obtain ⟨fd, F⟩ := e.F_f_want_number
  refine ⟨_, fd, e.g_want_number, ?_, F.kp, F.bindsN fun _ _ _ _ _ _ us hl => match us, hl with | [_], _ => rfl⟩
  obtain ⟨f1, d1, m1, G1, k1, b1⟩ := has_is_number (P := P) (w := w) (base := base) e
  refine F.okD sc_want_number (fun vs H Q E h => ?_) (fun cdv A outer s H vs Q E hr h => ?_)
  · obtain ⟨v, rfl, _⟩ := h; rfl
  · obtain ⟨v, rfl, ⟨r, hv⟩, q⟩ := h
    refine ⟨_, pss_one (ps_if (pt_not (pt_val (pe_call G1 hr rfl m1 k1 b1 .nil pass0 (pa_cons (pv 0) pa_nil)))) (pss_one ps_never) pss_nil), ?_⟩
    exact ⟨_, rfl, v, r, rfl, hv, true, rfl, iteF q⟩
/-! ### common_divisor -/
def spGcd : Sp := fun vs H Q _ => ∃ a b : Nat, vs = [.int a, .int b] ∧ Q (.int (Nat.gcd a b : Nat)) H
theorem sc_gcd : FnScope ["one", "other"] ["one", "other"] (defScope f_common_divisor_ratios) := ⟨rfl, rfl, rfl, by decide +kernel, rfl, by decide +kernel, by decide +kernel⟩
theorem has_gcd (e : Ev K mg) : Has P w K mg base 1 "common_divisor_ratios" ["one", "other"] spGcd := by
  obtain ⟨fd, F⟩ := e.F_f_common_divisor_ratios
  refine ⟨_, fd, e.g_common_divisor_ratios, ?_, F.kp, F.bindsN fun _ _ _ _ _ _ us hl => match us, hl with | [_, _], _ => rfl⟩
  refine F.okD sc_gcd (fun vs H Q E h => ?_) (fun cdv A outer s H vs Q E hr h => ?_)
  · obtain ⟨a, b, rfl, _⟩ := h; rfl
  · obtain ⟨a, b, rfl, q⟩ := h
    refine ⟨_, pss_cons (ps_while PassesOwn.never (pt_cmpR op_ne (pv 1) pe_int (nomark _)) (pss_one (ps_par (i := 0) (j := 1) rfl sc_gcd.nd rfl rfl (by decide) rfl rfl (pa_cons (pv 1) (pa_cons (pe_op op_mod (pv 0) (pv 1)) pa_nil)) (by rfl))))
      (pss_one (ps_ret (pv 0))), ?_⟩
    refine while_by (fun σ H' => H' = H ∧ ∃ x y : Nat, σ = [some (.int x), some (.int y)] ∧ Nat.gcd x y = Nat.gcd a b)
      (fun σ _ => match σ with | [_, some (.int y)] => y.toNat | _ => 0) ⟨rfl, a, b, rfl, rfl⟩ ?_ ?_
    · rintro σ H' ⟨rfl, x, y, rfl, hg⟩
      refine ⟨_, rfl, rfl, _, rfl, ?_⟩
      by_cases hy : (y : Int) = 0
      · have h0 : y = 0 := by omega
        subst h0
        rw [decide_eq_true (show V.int ((0 : Nat) : Int) = V.int 0 from rfl)]
        refine iteF ?_
        rw [Nat.gcd_zero_right] at hg
        subst hg
        exact ⟨_, rfl, q⟩
      · have h0 : y ≠ 0 := by omega
        rw [decide_eq_false (show ¬ V.int (y : Int) = V.int 0 from fun z => hy (by injection z))]
        refine iteT ?_
        refine ⟨_, rfl, _, rfl, _, rfl, _, _, rfl, rfl, (by omega), _, _, rfl, ⟨rfl, y, x % y, ?_, ?_⟩, ?_⟩
        · rw [Int.natCast_emod]; rfl
        · rw [gcd_step h0, hg]
        · show ((x : Int) % (y : Int)).toNat < (y : Int).toNat
          have := Nat.mod_lt x (Nat.pos_of_ne_zero h0)
          rw [← Int.natCast_emod]; omega
    · intro σ H' Q1 Q2 hQ h
      obtain ⟨v, e1, h1, k, e2, h2⟩ := h
      exact ⟨v, e1, h1, k, e2, hQ _ _ h2⟩
end NG
namespace NG
open PySem PySem.Spec PyProof.Rows L2 He
variable {P : Program} {w : World} {K : Fg} {mg : Str → Option Value} {base : Heap}
/-! ### Ratio(top, bottom) -/
/-- so many bits a number of the text may have -/
def szR : Nat := 8000
def spRInit (K : Fg) : Sp := fun vs H Q _ => ∃ (x dx : Addr) (t b : Int), vs = [.ref x, .int t, .int b] ∧ 0 < b ∧ b.natAbs < 2 ^ szR ∧ H x = some (.ins (ga K "Ratio") dx []) ∧
  Q .non (upd H x (.ins (ga K "Ratio") dx (rfs (mkRat t b.toNat).num (mkRat t b.toNat).den)))
theorem sc_RInit : FnScope ["self", "top", "bottom", "divisor"] ["self", "top", "bottom"] (defScope m_Ratio_init) := ⟨rfl, rfl, rfl, by decide +kernel, rfl, by decide +kernel, by decide +kernel⟩
theorem ok_RInit (e : Ev K mg) {fd : FuncData} (F : FunD K "__init__" "Ratio.__init__" (defArgs m_Ratio_init) (defBody m_Ratio_init) (defScope m_Ratio_init) [Dv.v K (.int 1)] [] (fAd K ("Ratio", some "__init__")) fd) :
    FnOk P w K mg base CX0 2 (fAd K ("Ratio", some "__init__")) fd ["self", "top", "bottom"] (spRInit K) := by
  obtain ⟨f1, d1, m1, G1, k1, b1⟩ := has_is_integer (P := P) (w := w) (base := base) e
  obtain ⟨f2, d2, m2, G2, k2, b2⟩ := has_gcd (P := P) (w := w) (base := base) e
  refine F.okD sc_RInit (fun vs H Q E h => ?_) (fun cdv A outer s H vs Q E hr h => ?_)
  · obtain ⟨x, dx, t, b, rfl, _⟩ := h; rfl
  · obtain ⟨x, dx, t, b, rfl, hb, hz, hx, q⟩ := h
    refine ⟨_, pss_cons (ps_if (pt_not (pt_val (pe_call G1 hr rfl m1 k1 b1 .nil pass0 (pa_cons (pv 1) pa_nil)))) (pss_one ps_never) pss_nil)
      (pss_cons (ps_if (PW.pt (pw_or (pt_not (pt_val (pe_call G1 hr rfl m1 k1 b1 .nil pass0 (pa_cons (pv 2) pa_nil)))) (pw_or1 (pt_cmpR op_eq (pv 2) pe_int (nomark _))))) (pss_one ps_never) pss_nil)
      (pss_cons (ps_set (i := 3) sc_RInit.nd rfl (Or.inl rfl) (pe_call G2 hr rfl m2 k2 b2 .nil pass0 (pa_cons (pe_callB call_abs rfl e.b_abs boot_abs (pa_cons (pv 1) pa_nil)) (pa_cons (pe_callB call_abs rfl e.b_abs boot_abs (pa_cons (pv 2) pa_nil)) pa_nil))))
      (pss_cons (ps_if (pt_cmpR op_lt (pv 2) pe_int (nomark _)) (pss_one (ps_set (i := 3) sc_RInit.nd rfl (Or.inl rfl) (pe_un un_neg (pv 3)))) pss_nil)
      (pss_cons (ps_fld (pv 0) (pe_op op_fdivW (pv 1) (pv 3)) rfl)
      (pss_one (ps_fld (pv 0) (pe_op op_fdivW (pv 2) (pv 3)) rfl)))))), ?_⟩
    refine ⟨_, rfl, _, rfl, .inl ⟨t, rfl, true, rfl, iteF ?_⟩⟩
    refine ⟨_, rfl, _, rfl, .inl ⟨b, rfl, true, rfl, iteF ?_⟩⟩
    refine ⟨_, rfl, rfl, _, rfl, ?_⟩
    rw [decide_eq_false (show ¬ V.int b = V.int 0 from fun z => by injection z with z; omega)]
    refine iteF ?_
    have ea : ∀ i : Int, (if i < 0 then -i else i) = ((i.natAbs : Nat) : Int) := fun i => by split <;> omega
    refine ⟨_, rfl, _, rfl, _, rfl, _, rfl, t.natAbs, b.natAbs, by rw [ea, ea]; rfl, ?_⟩
    have g0 : (0 : Int) < (Nat.gcd t.natAbs b.natAbs : Nat) := by
      have := Nat.gcd_pos_of_pos_right t.natAbs (show 0 < b.natAbs by omega); omega
    have gz : ((Nat.gcd t.natAbs b.natAbs : Nat) : Int).natAbs < 2 ^ szR := by
      have := Nat.gcd_le_right t.natAbs (show 0 < b.natAbs by omega)
      simp only [Int.natAbs_natCast]; omega
    refine ⟨_, rfl, _, _, rfl, rfl, _, rfl, ?_⟩
    rw [decide_eq_false (show ¬ b < 0 by omega)]
    refine iteF ?_
    have hw : CDivW t ((Nat.gcd t.natAbs b.natAbs : Nat) : Int) := wide_div g0 gz (by decide) (by decide)
    refine ⟨_, rfl, _, rfl, _, _, rfl, rfl, hw, _, rfl, x, _, dx, _, rfl, hx, e.cl_Ratio, e.n_Ratio_own_top, (by decide), ?_⟩
    refine ⟨_, rfl, _, rfl, _, _, rfl, rfl, hw, _, rfl, x, _, dx, _, rfl, upd_same, e.cl_Ratio, e.n_Ratio_own_bottom, ?_, ?_⟩
    · exact Nat.lt_of_le_of_lt (length_putF _ _ _) (by decide)
    · rw [upd_upd]
      have e1 := mk_num (t := t) hb
      have e2 := mk_den (t := t) hb
      rw [rfs, e1, e2] at q
      exact q
theorem hasC_Ratio1 (e : Ev K mg) : HasC P w K mg base 2 "Ratio" ["self", "top", "bottom"] [.int 1] (spRInit K) := by
  obtain ⟨fd, F⟩ := e.F_m_Ratio_init
  obtain ⟨ds, hv, hb⟩ := FunD.binds1 (ps := ["self", "top", "bottom"]) F 2 0 (by simp) rfl (fun T kV doc pm an cdv ct us its h1 h2 => match us, its, h1, h2 with | [_, _], [_], _, _ => ⟨_, rfl, rfl⟩)
  exact ⟨fd, ds, e.mk_Ratio, e.g_Ratio, ok_RInit e F, hv, hb⟩
theorem hasC_Ratio2 (e : Ev K mg) : HasC P w K mg base 2 "Ratio" ["self", "top", "bottom"] [] (spRInit K) := by
  obtain ⟨fd, F⟩ := e.F_m_Ratio_init
  obtain ⟨ds, hv, hb⟩ := FunD.binds1 (ps := ["self", "top", "bottom"]) F 3 1 (by simp) rfl (fun T kV doc pm an cdv ct us its h1 h2 => match us, its, h1, h2 with | [_, _, _], [_], _, _ => ⟨_, rfl, rfl⟩)
  exact ⟨fd, ds, e.mk_Ratio, e.g_Ratio, ok_RInit e F, hv, hb⟩
/-- behind a new Ratio -/
theorem made_Rt {H : Hp} {x dx : Addr} {r : Rat} (nx : H x = none) (nd : H dx = none) (hne : dx ≠ x) :
    Same H (upd (upd (upd H dx (.own x)) x (.ins (ga K "Ratio") dx [])) x (.ins (ga K "Ratio") dx (rfs r.num r.den))) ∧
    Rt K (upd (upd (upd H dx (.own x)) x (.ins (ga K "Ratio") dx [])) x (.ins (ga K "Ratio") dx (rfs r.num r.den))) (.ref x) r := by
  rw [upd_upd]
  refine ⟨fun b o eo => ?_, x, rfl, dx, upd_same⟩
  rw [upd_ne (ne_of_none eo nx), upd_ne (ne_of_none eo nd)]; exact eo
/-! ### as_ratio -/
def spAsRatio (K : Fg) : Sp := fun vs H Q _ => ∃ v r, vs = [v] ∧ Nu K H v r ∧ ∀ u H', Same H H' → Rt K H' u r → Q u H'
theorem sc_as_ratio : FnScope ["number"] ["number"] (defScope f_as_ratio) := ⟨rfl, rfl, rfl, by decide +kernel, rfl, by decide +kernel, by decide +kernel⟩
theorem mk_int (i : Int) : mkRat i (1 : Int).toNat = (i : Rat) := by
  have : (1 : Int).toNat = 1 := rfl
  rw [this]
  apply Rat.ext
  · rw [Rat.num_mkRat, if_neg (by decide), Nat.gcd_one_left]; simp
  · rw [Rat.den_mkRat, if_neg (by decide), Nat.gcd_one_left]; rfl
theorem has_as_ratio (e : Ev K mg) : Has P w K mg base 4 "as_ratio" ["number"] (spAsRatio K) := by
  obtain ⟨fd, F⟩ := e.F_f_as_ratio
  refine ⟨_, fd, e.g_as_ratio, ?_, F.kp, F.bindsN fun _ _ _ _ _ _ us hl => match us, hl with | [_], _ => rfl⟩
  obtain ⟨d1, ds1, M1, m1, G1, v1, b1⟩ := hasC_Ratio1 (P := P) (w := w) (base := base) e
  refine F.okD sc_as_ratio (fun vs H Q E h => ?_) (fun cdv A outer s H vs Q E hr h => ?_)
  · obtain ⟨v, r, rfl, _⟩ := h; rfl
  · obtain ⟨v, r, rfl, hv, q⟩ := h
    refine ⟨_, pss_one (ps_ret (pe_ifExp (pt_val (pe_callB call_isi rfl e.b_isinstance boot_isinstance (pa_cons (pv 0) (pa_cons (pe_glob rfl e.g_Ratio (v := .ref (ga K "Ratio")) rfl) pa_nil)))) (pv 0)
      (pe_make M1 G1 hr rfl m1 b1 v1 pass0 (pa_cons (pv 0) pa_nil)))), ?_⟩
    rcases hv with ⟨i, rfl, rfl⟩ | hv
    · refine ⟨_, rfl, _, _, _, _, _, rfl, .own _, .base (.int i), e.k_int_Ratio, false, rfl, iteF ?_⟩
      refine ⟨_, rfl, fun x dx nx nd hne => ?_⟩
      refine ⟨x, dx, i, 1, rfl, by decide, Nat.one_lt_two_pow (by decide), upd_same, rfl, ?_⟩
      rw [mk_int]
      obtain ⟨s1, r1⟩ := made_Rt (K := K) (r := (i : Rat)) nx nd hne
      exact q _ _ s1 r1
    · obtain ⟨a, rfl, dx, ha⟩ := id hv
      exact ⟨_, rfl, _, _, _, _, _, rfl, .own _, .base (e.ty_Ratio.ty ha), e.k_Ratio_Ratio, true, rfl, iteT ⟨_, rfl, q _ _ (Same.refl H) hv⟩⟩
end NG

set_option Elab.async false
set_option linter.all false
set_option maxRecDepth 100000
set_option maxHeartbeats 2000000
/-! Ratios: sign, +, *, == -/
namespace NG
open PySem PySem.Spec PyProof.Rows L2 He
variable {P : Program} {w : World} {K : Fg} {mg : Str → Option Value} {base : Heap}
def szN : Nat := 2000
def sgn (i : Int) : Int := (if 0 < i then 1 else 0) - (if i < 0 then 1 else 0)
theorem sgn_zero (i : Int) : sgn i = 0 ↔ i = 0 := by unfold sgn; split <;> split <;> omega
theorem sgn_eq (i : Int) : sgn i = (if decide (0 < i) = true then (1 : Int) else 0) - (if decide (i < 0) = true then (1 : Int) else 0) := by
  unfold sgn
  by_cases h1 : 0 < i <;> by_cases h2 : i < 0 <;> simp [h1, h2]
def spSign (K : Fg) : Sp := fun vs H Q _ => ∃ v r, vs = [v] ∧ Rt K H v r ∧ Q (.int (sgn r.num)) H
theorem sc_sign : FnScope ["self"] ["self"] (defScope m_Ratio_sign) := ⟨rfl, rfl, rfl, by decide +kernel, rfl, by decide +kernel, by decide +kernel⟩
theorem ok_sign (e : Ev K mg) : ∃ fd, PropOf K (ga K "Ratio") "sign" (ma K (ga K "Ratio") "sign") (propG K (ga K "Ratio") "sign") ∧ FnOk P w K mg base CX0 1 (propG K (ga K "Ratio") "sign") fd ["self"] (spSign K) ∧ Binds K fd ["self"] [] := by
  obtain ⟨fd, F⟩ := e.F_m_Ratio_sign
  refine ⟨fd, e.p_Ratio_sign, ?_, F.bindsN fun _ _ _ _ _ _ us hl => match us, hl with | [_], _ => rfl⟩
  refine F.okD sc_sign (fun vs H Q E h => ?_) (fun cdv A outer s H vs Q E hr h => ?_)
  · obtain ⟨v, r, rfl, _⟩ := h; rfl
  · obtain ⟨v, r, rfl, ⟨a, rfl, dx, ha⟩, q⟩ := h
    refine ⟨_, pss_one (ps_ret (pe_op op_sub (pe_callTy call_int1 rfl e.b_int boot_int (pa_cons (pe_cmpR op_gt (pe_fld (pv 0) rfl) pe_int (nomark _)) pa_nil))
      (pe_callTy call_int1 rfl e.b_int boot_int (pa_cons (pe_cmpR op_lt (pe_fld (pv 0) rfl) pe_int (nomark _)) pa_nil)))), ?_⟩
    refine ⟨_, rfl, a, _, dx, _, _, rfl, ha, e.cl_Ratio, e.n_Ratio_own_top, rfs_top _ _, _, _, rfl, rfl, .inr ⟨_, rfl, ?_⟩⟩
    refine ⟨_, rfl, a, _, dx, _, _, rfl, ha, e.cl_Ratio, e.n_Ratio_own_top, rfs_top _ _, _, _, rfl, rfl, .inr ⟨_, rfl, ?_⟩⟩
    refine ⟨_, _, rfl, rfl, ?_⟩
    rw [sgn_eq] at q
    exact q
/-- two operands -/
def spROp (K : Fg) (f : Rat → Rat → Rat) : Sp := fun vs H Q _ => ∃ x y r q, vs = [x, y] ∧ Rt K H x r ∧ Nu K H y q ∧ Bd szN r ∧ Bd szN q ∧ ∀ u H', Same H H' → Rt K H' u (f r q) → Q u H'
theorem szz {i j : Int} (h1 : i.natAbs < 2 ^ szN) (h2 : j.natAbs < 2 ^ szN) : CMulW i j := wide_mul h1 h2 (by decide) (by decide) (by decide)
theorem szp {i j : Int} (h1 : i.natAbs < 2 ^ szN) (h2 : j.natAbs < 2 ^ szN) : (i * j).natAbs < 2 ^ szR :=
  Nat.lt_of_lt_of_le (wide_lt h1 h2) (Nat.pow_le_pow_right (by decide) (by decide))
theorem den_lt {r : Rat} (h : Bd szN r) : ((r.den : Nat) : Int).natAbs < 2 ^ szN := by simpa using h.2
theorem sc_radd : FnScope ["self", "other", "more", "top"] ["self", "other"] (defScope m_Ratio_add) := ⟨rfl, rfl, rfl, by decide +kernel, rfl, by decide +kernel, by decide +kernel⟩
theorem hasM_radd (e : Ev K mg) : HasM P w K mg base 5 "Ratio" "__add__" ["self", "other"] (spROp K (· + ·)) := by
  obtain ⟨fd, F⟩ := e.F_m_Ratio_add
  refine ⟨fd, e.me_Ratio_add, ?_, F.bindsN fun _ _ _ _ _ _ us hl => match us, hl with | [_, _], _ => rfl⟩
  obtain ⟨f1, d1, m1, G1, k1, b1⟩ := has_want_number (P := P) (w := w) (base := base) e
  obtain ⟨f2, d2, m2, G2, k2, b2⟩ := has_as_ratio (P := P) (w := w) (base := base) e
  obtain ⟨d3, ds3, M3, m3, G3, v3, b3⟩ := hasC_Ratio2 (P := P) (w := w) (base := base) e
  refine F.okD sc_radd (fun vs H Q E h => ?_) (fun cdv A outer s H vs Q E hr h => ?_)
  · obtain ⟨x, y, r, q, rfl, _⟩ := h; rfl
  · obtain ⟨x, y, r, q, rfl, hx, hy, z1, z2, k⟩ := h
    refine ⟨_, pss_cons (ps_expr (pe_call G1 (hr.mono (by decide)) rfl m1 k1 b1 .nil pass0 (pa_cons (pv 1) pa_nil)))
      (pss_cons (ps_set (i := 2) sc_radd.nd rfl (Or.inl rfl) (pe_call G2 hr rfl m2 k2 b2 .nil pass0 (pa_cons (pv 1) pa_nil)))
      (pss_cons (ps_set (i := 3) sc_radd.nd rfl (Or.inl rfl) (pe_op op_add (pe_op op_mulW (pe_fld (pv 0) rfl) (pe_fld (pv 2) rfl)) (pe_op op_mulW (pe_fld (pv 2) rfl) (pe_fld (pv 0) rfl))))
      (pss_one (ps_ret (pe_make M3 G3 (hr.mono (by decide)) rfl m3 b3 v3 pass0 (pa_cons (pv 3) (pa_cons (pe_op op_mulW (pe_fld (pv 0) rfl) (pe_fld (pv 2) rfl)) pa_nil))))))), ?_⟩
    refine ⟨y, rfl, y, rfl, ⟨q, hy⟩, ?_⟩
    refine ⟨y, rfl, y, q, rfl, hy, fun u H1 s1 hu => ?_⟩
    obtain ⟨a, rfl, dx, ha⟩ := mn_Rt _ _ _ _ s1 hx
    obtain ⟨b, rfl, dy, hb⟩ := id hu
    have cl := e.cl_Ratio
    have nt := e.n_Ratio_own_top
    have nb := e.n_Ratio_own_bottom
    refine ⟨_, rfl, a, _, dx, _, _, rfl, ha, cl, nt, rfs_top _ _, _, rfl, b, _, dy, _, _, rfl, hb, cl, nb, rfs_bot _ _, _, _, rfl, rfl, szz z1.1 (den_lt z2), ?_⟩
    refine ⟨_, rfl, b, _, dy, _, _, rfl, hb, cl, nt, rfs_top _ _, _, rfl, a, _, dx, _, _, rfl, ha, cl, nb, rfs_bot _ _, _, _, rfl, rfl, szz z2.1 (den_lt z1), ?_⟩
    refine ⟨_, _, rfl, rfl, ?_⟩
    refine ⟨_, rfl, _, rfl, a, _, dx, _, _, rfl, ha, cl, nb, rfs_bot _ _, _, rfl, b, _, dy, _, _, rfl, hb, cl, nb, rfs_bot _ _, _, _, rfl, rfl, szz (den_lt z1) (den_lt z2), ?_⟩
    intro x' dx' nx nd hne
    refine ⟨x', dx', _, _, rfl, Int.mul_pos (den_pos r) (den_pos q), szp (den_lt z1) (den_lt z2), upd_same, rfl, ?_⟩
    obtain ⟨s2, r2⟩ := made_Rt (K := K) (r := r + q) nx nd hne
    rw [rat_add]
    exact k _ _ (s1.trans s2) r2
/-! ### == of two Ratios that are equal -/
def spREq (K : Fg) : Sp := spEq fun a b H => ∃ r, RtA K H a r ∧ RtA K H b r
theorem sc_req : FnScope ["self", "other"] ["self", "other"] (defScope m_Ratio_eq) := ⟨rfl, rfl, rfl, by decide +kernel, rfl, by decide +kernel, by decide +kernel⟩
theorem hasM_req (e : Ev K mg) : HasM P w K mg base 1 "Ratio" "__eq__" ["self", "other"] (spREq K) := by
  obtain ⟨fd, F⟩ := e.F_m_Ratio_eq
  refine ⟨fd, e.me_Ratio_eq, ?_, F.bindsN fun _ _ _ _ _ _ us hl => match us, hl with | [_, _], _ => rfl⟩
  refine F.okD sc_req (fun vs H Q E h => ?_) (fun cdv A outer s H vs Q E hr h => ?_)
  · obtain ⟨a, b, rfl, _⟩ := h; rfl
  · obtain ⟨a, b, rfl, ⟨r, ⟨dx, ha⟩, ⟨dy, hb⟩⟩, k⟩ := h
    refine ⟨_, pss_one (ps_ret (pe_and (pe_callB call_isi rfl e.b_isinstance boot_isinstance (pa_cons (pv 1) (pa_cons (pe_glob rfl e.g_Ratio (v := .ref (ga K "Ratio")) rfl) pa_nil)))
      (pe_and (pe_cmpR op_eq (pe_fld (pv 0) rfl) (pe_fld (pv 1) rfl) (nomark _)) (pe_one (pe_cmpR op_eq (pe_fld (pv 0) rfl) (pe_fld (pv 1) rfl) (nomark _)))))), ?_⟩
    have cl := e.cl_Ratio
    have nt := e.n_Ratio_own_top
    have nb := e.n_Ratio_own_bottom
    refine ⟨_, rfl, _, _, _, _, _, rfl, .own _, .base (e.ty_Ratio.ty hb), e.k_Ratio_Ratio, true, rfl, iteT ?_⟩
    refine ⟨_, rfl, a, _, dx, _, _, rfl, ha, cl, nt, rfs_top _ _, _, rfl, b, _, dy, _, _, rfl, hb, cl, nt, rfs_top _ _, rfl, true, ?_, iteT ?_⟩
    · rw [decide_eq_true rfl]
    refine ⟨_, rfl, a, _, dx, _, _, rfl, ha, cl, nb, rfs_bot _ _, _, rfl, b, _, dy, _, _, rfl, hb, cl, nb, rfs_bot _ _, rfl, ?_⟩
    rw [decide_eq_true rfl]
    exact k H Ext.rfl'
end NG

set_option Elab.async false
set_option linter.all false
set_option maxRecDepth 100000
set_option maxHeartbeats 2000000
/-! keys, rows, tables -/
namespace NG
open PySem PySem.Spec PyProof.Rows L2 He
variable {P : Program} {w : World} {K : Fg} {mg : Str → Option Value} {base : Heap}
def lettersC : List Nat := ("abcdefghijklmnopqrstuvwxyz" : Str).cps.toList
def signsC : List Nat := ("abcdefghijklmnopqrstuvwxyz0123456789" : Str).cps.toList
theorem tYes_of {σ : L2.St} {H : Hp} {A : Hp → Prop} {B : Hp → Prop} (h : A H) : tYes σ H fun c H3 => if c = true then A H3 else B H3 := by
  show if true = true then A H else B H
  exact iteT h
/-- the text is a key -/
def keyS (s : Str) : Bool := decide (1 ≤ s.length ∧ s.length ≤ 8) && ((match s.cps.toList.head? with
  | some c => decide (c ∈ lettersC)
  | none => false) && s.cps.toList.all fun c => decide (c ∈ signsC))
theorem keyS_len {s : Str} (h : keyS s = true) : s.length ≤ 8 := by
  unfold keyS at h
  simp only [Bool.and_eq_true, decide_eq_true_eq] at h
  exact h.1.2
def NotT (K : Fg) (H : Hp) (v : V) (T : String) : Prop := ∃ t, TyX K H v t ∧ PySem.W.kitOne K t (.type T) = some false
def isBl : Rl Bool := fun _ v b => v = .bl b
theorem each_bl {H : Hp} {ys : List V} {bs : List Bool} (h : Each isBl H ys bs) : ys = bs.map V.bl := h.eq_map _ fun _ _ e => e
def spKey (K : Fg) : Sp := fun vs H Q _ => ∃ v, vs = [v] ∧ ((∃ s, v = .str s ∧ s.length ≤ 1000 ∧ ∀ H', Same H H' → Q (.bl (keyS s)) H') ∨ (NotT K H v "str" ∧ Q (.bl false) H))
theorem sc_is_key : FnScope ["value", "sign"] ["value"] (defScope f_is_key) := ⟨rfl, rfl, rfl, by decide +kernel, rfl, by decide +kernel, by decide +kernel⟩
theorem kb_ss : kitB "str" "str" = some true := by decide +kernel
theorem size1000 {n : Nat} (h : n ≤ 1000) : n ≤ sizeLine := Nat.le_trans h (by decide)
theorem has_is_key (e : Ev K mg) : Has P w K mg base 1 "is_key" ["value"] (spKey K) := by
  obtain ⟨fd, F⟩ := e.F_f_is_key
  refine ⟨_, fd, e.g_is_key, ?_, F.kp, F.bindsN fun _ _ _ _ _ _ us hl => match us, hl with | [_], _ => rfl⟩
  obtain ⟨t1, gL⟩ := e.LONGEST_KEY
  obtain ⟨t2, gA⟩ := e.LETTERS
  obtain ⟨t3, gS⟩ := e.SIGNS
  refine F.okD sc_is_key (fun vs H Q E h => ?_) (fun cdv A outer s H vs Q E hr h => ?_)
  · obtain ⟨v, rfl, _⟩ := h; rfl
  · obtain ⟨v, rfl, h⟩ := h
    refine ⟨_, pss_cons (ps_if (PW.pt (pw_or (pt_not (pt_val (pe_callB call_isi rfl e.b_isinstance boot_isinstance (pa_cons (pv 0) (pa_cons (pe_bltn (v := .ty "str") rfl e.b_str boot_str rfl) pa_nil)))))
        (pw_or (pt_not (pt_chain op_le op_le pe_int (pe_callB call_len_str rfl e.b_len boot_len (pa_cons (pv 0) pa_nil)) (pe_glob rfl gL (v := .int 8) ⟨_, rfl⟩)))
        (pw_or1 (pt_cmpR op_notIn_sign (pe_ix ix_str (pv 0) pe_int (fun _ _ => rfl)) (pe_glob rfl gA (v := .str "abcdefghijklmnopqrstuvwxyz") ⟨_, rfl⟩) rfl))))) (pss_one (ps_ret pe_bl)) pss_nil)
      (pss_one (ps_ret (pe_callB (cr_all rfl) rfl e.b_all (by decide +kernel) (pa_cons (pe_lc (own := [("sign", 1)]) (g := gName 1) (tt := tYes) rfl sc_is_key.nd (pi_str (pv 0)) (blkOk_by (N := ["value", "sign"]) (sc := defScope f_is_key) (by decide +kernel))
        (fun _ _ _ _ _ => pg_name (i := 1) sc_is_key.nd rfl (Or.inl rfl)) (fun _ _ _ _ _ => pts_nil) (fun _ _ _ _ _ => pe_cmpR op_in_sign (pv 1) (pe_glob rfl gS (v := .str "abcdefghijklmnopqrstuvwxyz0123456789") ⟨_, rfl⟩) rfl)) pa_nil)))), ?_⟩
    rcases h with ⟨z, rfl, hz, q⟩ | ⟨⟨t, ht, hk⟩, q⟩
    · refine ⟨_, rfl, _, _, _, _, _, rfl, .ty _, .base (.str z), kit_ty kb_ss, true, rfl, iteF ?_⟩
      refine ⟨_, rfl, _, rfl, size1000 hz, _, _, rfl, rfl, _, rfl, ?_⟩
      by_cases h1 : (1 : Int) ≤ (z.length : Nat)
      · rw [decide_eq_true h1]
        refine iteT ⟨_, _, rfl, rfl, _, rfl, ?_⟩
        by_cases h8 : ((z.length : Nat) : Int) ≤ 8
        · rw [decide_eq_true h8]
          refine iteF ?_
          have hl : 0 < z.cps.toList.length := by
            have : z.cps.toList.length = z.length := by simp [Str.length]
            omega
          obtain ⟨c, l, hc⟩ : ∃ c l, z.cps.toList = c :: l := by
            cases q2 : z.cps.toList with
            | nil => rw [q2] at hl; simp at hl
            | cons c l => exact ⟨c, l, rfl⟩
          refine ⟨_, rfl, z, 0, c, rfl, rfl, size1000 hz, ?_, c, _, rfl, rfl, _, rfl, ?_⟩
          · rw [hc]; exact atI_nat (j := 0) (by rfl)
          · have hk : keyS z = (decide (c ∈ lettersC) && z.cps.toList.all fun c => decide (c ∈ signsC)) := by
              unfold keyS
              rw [decide_eq_true (show 1 ≤ z.length ∧ z.length ≤ 8 by omega), hc]
              rfl
            by_cases hm : c ∈ lettersC
            · rw [decide_eq_true (show c ∈ ("abcdefghijklmnopqrstuvwxyz" : Str).cps.toList from hm)]
              refine iteF ?_
              rw [decide_eq_true hm, Bool.true_and] at hk
              refine ⟨_, rfl, z, rfl, fun D hD => ?_⟩
              refine lc_src (src_str (x := z)) isBl (fun c => decide (c ∈ signsC)) (fun _ => true) trivial hD (by rw [Array.length_toList]; exact Nat.lt_of_le_of_lt hz (by decide)) ?_ ?_
              · intro i b x H2 acc Nx hb s2 _ hx hD2 hl2 _ _ kT
                obtain rfl : x = _ := hx
                refine ⟨rfl, tYes_of ?_⟩
                refine ⟨_, rfl, _, _, rfl, rfl, acc, hD2, hl2, ?_⟩
                exact kT rfl _ _ (Same.refl _) fun _ _ => rfl
              · intro H2 ys s2 hy he
                have ey := each_bl (he H2 fun _ _ _ z => z)
                rw [filt] at ey
                refine ⟨D, _, rfl, SqL.of (by rw [hy, ey]), ?_⟩
                rw [hk] at q
                rw [List.all_map]
                exact q H2 s2
            · rw [decide_eq_false (show ¬ c ∈ ("abcdefghijklmnopqrstuvwxyz" : Str).cps.toList from hm)]
              refine iteT ?_
              rw [decide_eq_false hm, Bool.false_and] at hk
              rw [hk] at q
              exact q H (Same.refl _)
        · rw [decide_eq_false h8]
          refine iteT ?_
          have hk : keyS z = false := by
            unfold keyS
            rw [decide_eq_false (show ¬ (1 ≤ z.length ∧ z.length ≤ 8) by omega), Bool.false_and]
          rw [hk] at q
          exact q H (Same.refl _)
      · rw [decide_eq_false h1]
        refine iteF ⟨_, rfl, iteT ?_⟩
        have hk : keyS z = false := by
          unfold keyS
          rw [decide_eq_false (show ¬ (1 ≤ z.length ∧ z.length ≤ 8) by omega), Bool.false_and]
        rw [hk] at q
        exact q H (Same.refl _)
    · exact ⟨_, rfl, _, _, _, _, _, rfl, .ty _, ht, hk, false, rfl, iteT (iteT q)⟩
end NG

set_option Elab.async false
set_option linter.all false
set_option maxRecDepth 100000
set_option maxHeartbeats 2000000
/-! repr(..), where the reprs under way are known -/
namespace NG
open PySem PySem.Spec PyProof.Rows L2 He
open Builtin Builtin.List
/-- the reprs under way are of tracked things -/
def GTr (g : List Code) (H : Hp) : Prop := ∀ id v rest kw, Code.builtin id ⟨v :: rest, kw⟩ ∈ g → ∃ b o, v = .ref b ∧ H b = some o
theorem GTr.nil {H : Hp} : GTr [] H := fun _ _ _ _ h => nomatch h
theorem GTr.mono {g : List Code} {H H' : Hp} (h : GTr g H) (s : ∀ b o, H b = some o → ∃ o', H' b = some o') : GTr g H' := fun id v rest kw hm => by
  obtain ⟨b, o, e, hb⟩ := h id v rest kw hm
  obtain ⟨o', hb'⟩ := s b o hb
  exact ⟨b, o', e, hb'⟩
theorem GTr.same {g : List Code} {H H' : Hp} (h : GTr g H) (s : Same H H') : GTr g H' := h.mono fun b o e => ⟨o, s b o e⟩
theorem GTr.cons {g : List Code} {H : Hp} {a : Addr} {o : HO} {id : String} {rest : List Value} {kw : List (Str × Value)} (h : GTr g H) (e : H a = some o) : GTr (.builtin id ⟨.ref a :: rest, kw⟩ :: g) H := fun id' v rest' kw' hm => by
  rcases List.mem_cons.mp hm with q | q
  · cases q
    exact ⟨a, o, rfl, e⟩
  · exact h _ _ _ _ q
/-- what is laid anew is not shown yet -/
theorem GTr.clear {g : List Code} {H : Hp} {p : Addr} (h : GTr g H) (n : H p = none) : Clear g p := fun id v rest kw hm e => by
  obtain ⟨b, o, q, hb⟩ := h id v rest kw hm
  rw [q] at e
  cases e
  rw [n] at hb
  cases hb
/-- x is shown as t wherever P holds; as: the containers that ask the stack -/
def RpI (X : Cx) (P : Hp → Prop) (as : List Addr) (k : Nat) (x : V) (t : Str) : Prop :=
  ∀ (base : Nat), base + t.length ≤ sizeLine → ∀ (A : Around) (g : List Code) (pins : List (Addr × Obj)) (σ : L2.St) (H : Hp) (s : Shared) (u : Value) (Q : Str → Shared → Prop) (E : Value → Shared → Prop),
    A.guards = some g → GTr g H → (∀ b ∈ as, Clear g b) → A.frames = X.A.frames → Room k A → Inv X pins σ H s → P H → RelV x u →
    (∀ H' s', Same H H' → Inv X pins σ H' s' → Q t s') → wpAny (model X.prog X.w) A (pyReprUnder base u) Q E s
section
variable {X : Cx} {P P' : Hp → Prop} {as : List Addr} {k : Nat} {x : V} {t : Str}
theorem RpI.more {as' : List Addr} (h : RpI X P as k x t) (hs : ∀ b ∈ as, b ∈ as') : RpI X P as' k x t :=
  fun base hb A g pins σ H s u Q E hg ht hc => h base hb A g pins σ H s u Q E hg ht fun b m => hc b (hs b m)
theorem RpI.mono {k' : Nat} (h : RpI X P as k x t) (hk : k ≤ k') : RpI X P as k' x t :=
  fun base hb A g pins σ H s u Q E hg ht hc hf hr => h base hb A g pins σ H s u Q E hg ht hc hf (hr.mono hk)
theorem RpI.imp (h : RpI X P as k x t) (hp : ∀ H, P' H → P H) : RpI X P' as k x t :=
  fun base hb A g pins σ H s u Q E hg ht hc hf hr I p => h base hb A g pins σ H s u Q E hg ht hc hf hr I (hp H p)
/-- shown by the heap alone -/
theorem RpI.of_K (h : ∀ pins σ H s u, Inv X pins σ H s → P H → RelV x u → ∃ d, d ≤ k ∧ ReprK X.prog X.w as s.heap d u t) : RpI X P as k x t := by
  intro base hb A g pins σ H s u Q E hg ht hc hf hr I p r hQ
  obtain ⟨d, hd, q⟩ := h pins σ H s u I p r
  refine q base hb A g E s Q hg hc (by have := hr.un; omega) (fun _ _ e => e) fun h' tk hk => ?_
  exact hQ H _ (Same.refl _) (I.kept (t' := tk) hk)
theorem under_frames {A : Around} {c : Code} (hc : c.isGuard = true) : (A.under c).frames = A.frames := by
  cases c with
  | builtin id args => simp [Around.under, Code.envs, Code.isFrame, pushEnvs]
  | _ => cases hc
end
theorem under_list_dp (A : Around) (args : Args) : (A.under (.builtin "list.__repr__.loop" args)).depth = A.depth + 1 := by
  show A.depth + Code.weight _ = _
  have e : (Code.builtin "list.__repr__.loop" args).isGuard = true := isGuard_list_loop args
  unfold Code.weight
  rw [e]
  rfl
theorem Room.list {k : Nat} {A : Around} (r : Room (k + 1) A) (args : Args) : Room k (A.under (.builtin "list.__repr__.loop" args)) :=
  ⟨r.hd, by have := r.dp; rw [under_list_dp]; omega, by have := r.un; rw [units_under_list_loop]; omega⟩
section
variable {X : Cx}
theorem list_loopI {PP : Hp → Prop} {a p : Addr} {oa : Obj} {xs : List V} {items : Array Value} {na : Nat} {ts : List Str} {as : List Addr} {k base : Nat} {A : Around} {g : List Code} {R : Result → Shared → Prop} {pins : List (Addr × Obj)} {σ : L2.St}
    (hPs : ∀ H H', Same H H' → PP H → PP H') (hPa : ∀ H, PP H → H a = some (.frz oa (.lst xs))) (hda : oa.data = .seq items na) (hv : Vals xs items.toList)
    (hg : A.guards = some g) (hcl : ∀ b ∈ as, Clear g b) (hf : A.frames = X.A.frames) (hr : Room (k + 1) A) (hna : a ∉ as) (hlen : ts.length = items.size)
    (hT : ∀ (i : Nat) (x : V), xs[i]? = some x → ∃ t, ts[i]? = some t ∧ RpI X PP as k x t) (hsz : base + (listText ts).length ≤ sizeLine) :
    ∀ (n i : Nat) (H : Hp) (s : Shared) (acc : Array Value) (c : Nat) (done : List (Str × Tok)), items.size - i = n → i ≤ items.size → Inv X pins σ H s → GTr g H → PP H → FpOk X pins H p →
    s.heap.get? p = some { cls := .type "list", dict := none, data := .seq acc c, slots := #[] } → acc.toList = strValues done → done.map (·.1) = ts.take i →
    (∀ H' s' u, Same H H' → Inv X pins σ H' s' → R (.ok (.ret (.str (listText ts) u))) s') →
    codeAny (model X.prog X.w) A (.builtin "list.__repr__.loop" ⟨[.ref a, rawInt i, .ref p, rawInt ((base + piled (ts.take i) : Nat) : Int)], []⟩) R s := by
  have hL := textFrom_len ts 0 "["
  have hX : (listText ts).length = (textFrom 0 "[" ts).length + 1 := by
    show (textFrom 0 "[" ts ++ "]").length = _
    rw [strLen_append]; rfl
  have hsz1 : items.size ≤ sizeLine := by
    have h1 := hL.1
    rw [if_neg (Nat.lt_irrefl 0)] at h1
    omega
  have hsz2 : ∀ t ∈ ts, t.length ≤ sizeLine := fun t ht => by
    have h2 := hL.2.1 t ht
    omega
  have hsz3 : (listText ts).length ≤ sizeLine := by omega
  have hp3 := piled_le_listText ts
  intro n
  induction n with
  | zero =>
    intro i H s acc c done hk hi I ht hP hp hpo hacc hdone hR
    have ha : s.heap.get? a = some oa := (I.hok a _ (hPa H hP)).1
    have hin : i = items.size := by omega
    refine codeAny_builtin F.entry_list_repr_loop ?_
    show wpAny _ _ («list.__repr__.loop» ⟨[.ref a, .int i 0, .ref p, .int ((base + piled (ts.take i) : Nat) : Int) 0], []⟩) _ _ s
    rw [repr_loop_tree]
    refine wpAny_bind (wpAny_listItems ha hda ?_)
    have hnone : items[(i : Int).toNat]? = none := by simp [hin]
    simp only [hnone]
    unfold reprEnd
    refine wpAny_bind (wpAny_listItems hpo rfl ?_)
    rw [hacc, repr_fold]
    refine wpAny_bind (wpAny_pure ?_)
    have hall : done.map (·.1) = ts := by rw [hdone, hin, ← hlen, List.take_length]
    rw [hall]
    refine wpAny_bind (wpAny_mkStr (wpAny_pure ?_) hsz3)
    exact hR H _ _ (Same.refl _) (I.tok _)
  | succ n ih =>
    intro i H s acc c done hk hi I ht hP hp hpo hacc hdone hR
    have ha : s.heap.get? a = some oa := (I.hok a _ (hPa H hP)).1
    have hlt : i < items.size := by omega
    have hxl : i < xs.length := by rw [hv.length]; simpa using hlt
    obtain ⟨t, htt, hrep⟩ := hT i xs[i] (List.getElem?_eq_getElem hxl)
    obtain ⟨u, hu, ru⟩ := hv.get (List.getElem?_eq_getElem hxl)
    have hu' : items[i] = u := by
      rw [Array.getElem?_toList, Array.getElem?_eq_getElem hlt] at hu
      exact Option.some.inj hu
    have hp1 := piled_take_succ htt
    have hp2 := piled_take_le ts (i + 1)
    refine codeAny_builtin F.entry_list_repr_loop ?_
    show wpAny _ _ («list.__repr__.loop» ⟨[.ref a, .int i 0, .ref p, .int ((base + piled (ts.take i) : Nat) : Int) 0], []⟩) _ _ s
    rw [repr_loop_tree]
    refine wpAny_bind (wpAny_listItems ha hda ?_)
    have hsome : items[(i : Int).toNat]? = some items[i] := by simp [hlt]
    simp only [hsome]
    rw [Int.toNat_natCast, hu']
    have J := I.pinned (fp := [p]) (fun b hb => by rw [List.mem_singleton.mp hb]; exact hp) (fun b hb => by
      rw [List.mem_singleton.mp hb]
      exact ⟨_, hpo, fun v z => by cases z⟩)
    refine wpAny_bind (wpAny_holding (hrep (base + piled (ts.take i) + 1) (by omega) _ _ _ _ _ _ _ _ _ (guards_under_guard (isGuard_list_loop _) hg) (ht.cons (hPa H hP)) (fun b hb => (hcl b hb).cons (a := a) fun e => hna (e ▸ hb))
      ((under_frames (isGuard_list_loop _)).trans hf) (Room.list hr _) J hP ru fun H1 s1 hs1 I1 => ?_))
    have hpm := mem_pinsAt (fp := [p]) (List.mem_singleton.mpr rfl) hpo
    obtain ⟨e1, n1, _⟩ := I1.pin (p, _) (List.mem_append_right _ (List.mem_append_right _ hpm))
    have I1' : Inv X pins σ H1 s1 := I1.unpinned
    have hp' : FpOk X pins H1 p := ⟨n1, hp.2⟩
    refine wpAny_bind (wpAny_mkStr ?_ (hsz2 t (List.mem_of_getElem? htt)))
    refine wpAny_bind ?_
    show wpAny _ _ (updateSeq p _) _ _ _
    have hasz : acc.size ≤ sizeLine := by
      have e1 : acc.toList.length = acc.size := by simp
      have e2 : (strValues done).length = done.length := by simp [strValues]
      have e3 : done.length = (ts.take i).length := by rw [← hdone, List.length_map]
      have e4 : (ts.take i).length ≤ i := by rw [List.length_take]; omega
      rw [hacc] at e1; omega
    refine wpAny_updateSeq (s := { s1 with toks := s1.toks + 1 }) e1 rfl (wpAny_pure ⟨F.quiet_list_repr_loop _, ?_⟩) hasz
    have e3 : ((i : Int) + 1) = ((i + 1 : Nat) : Int) := by omega
    have e2 : base + piled (ts.take i) + (t.length + 2) = base + piled (ts.take (i + 1)) := by omega
    rw [e3, e2]
    have I2 := I1'.turnedL (t' := s1.toks + 1) (h' := s1.heap.update p (Obj.mapSeq fun l => l.push (.str t s1.toks))) (ch := [p]) (fun b o hb e => (Heap.get?_update_other _ _ (fun h : p = b => hb (by rw [h]; exact List.mem_singleton.mpr rfl))).trans e) (fun b hb => by rw [List.mem_singleton.mp hb]; exact hp')
    refine ih (i + 1) H1 _ (acc.push (.str t s1.toks)) _ (done ++ [(t, s1.toks)]) (by omega) hlt I2 (ht.same hs1) (hPs _ _ hs1 hP) hp' (Heap.get?_update_self _ e1 rfl) (by simp [hacc, strValues]) (by simp [List.take_add_one, htt, hdone]) fun H' s' w hs' I' => ?_
    exact hR H' s' w (hs1.trans hs') I'
end
section
variable {X : Cx}
/-- list.__repr__ of a list with items, from where its name is called -/
theorem list_headI {P PP : Hp → Prop} {a : Addr} {xs : List V} {ts : List Str} {as : List Addr} {k base : Nat} {A : Around} {g : List Code} {R : Result → Shared → Prop} {pins : List (Addr × Obj)} {σ : L2.St} {H : Hp} {s : Shared} (hne : xs ≠ [])
    (hPs : ∀ H H', Same H H' → PP H → PP H') (hPa : ∀ H oa, P H → PP (upd H a (.frz oa (.lst xs)))) (hPe : ∀ H, P H → H a = some (.lst xs))
    (hg : A.guards = some g) (ht : GTr g H) (hcl : ∀ b ∈ a :: as, Clear g b) (hf : A.frames = X.A.frames) (hr : Room (k + 1) A) (hna : a ∉ as)
    (hlen : ts.length = xs.length) (hT : ∀ (i : Nat) (x : V), xs[i]? = some x → ∃ t, ts[i]? = some t ∧ RpI X PP as k x t) (hsz : base + (listText ts).length ≤ sizeLine) (I : Inv X pins σ H s) (hP : P H)
    (hR : ∀ H' s' u, Same H H' → Inv X pins σ H' s' → R (.ok (.ret (.str (listText ts) u))) s') :
    wpAny (model X.prog X.w) A.in1 (Builtin.listReprAt base ⟨[.ref a], []⟩) (fun fin s' => match fin with | .done f => R (.ok f) s' | .again c' => c'.quiet = true ∧ codeAny (model X.prog X.w) A c' R s') (fun e s' => R (.error e) s') s := by
  have hHa := hPe H hP
  obtain ⟨od, I1⟩ := I.lock hHa trivial
  have hnf := I.nofrz hHa trivial
  have q1 : upd H a (.frz od (.lst xs)) a = some (.frz od (.lst xs)) := upd_same
  have e1 : s.heap.get? a = some od := (I1.hok a _ q1).1
  obtain ⟨hz, its, n, hv, e2⟩ := (show ObjOk X.prog X.w H s.heap a (.lst xs) from I.hok a _ hHa)
  have eo : od = { cls := .type "list", data := .seq its.toArray n } := Option.some.inj (e1.symm.trans e2)
  cases hi : its with
  | nil =>
    rw [hi] at hv
    cases hv
    exact absurd rfl hne
  | cons y l =>
    have hda : od.data = .seq (y :: l).toArray n := by rw [eo, hi]
    refine wpAny_list_repr_head (A := A.in1) hg (fun v rest kw hm => listSameRef_of_ne ((hcl a List.mem_cons_self) _ _ _ _ hm)) e1 hda ?_
    refine wpAny_bind (m := newList []) (wpAny_newObj_type ?_)
    refine wpAny_pure ⟨F.quiet_list_repr_loop _, ?_⟩
    have I2 := I1.kept (t' := s.toks) (h' := s.heap.push { cls := .type "list", data := .seq #[] 0 }) fun b o e => Heap.get?_push_of_some _ e
    have ht1 : GTr g (upd H a (.frz od (.lst xs))) := ht.mono fun b o e => by
      by_cases hb : b = a
      · rw [hb]; exact ⟨_, upd_same⟩
      · rw [upd_ne hb]; exact ⟨o, e⟩
    let PL : Hp → Prop := fun H' => PP H' ∧ H' a = some (.frz od (.lst xs))
    refine list_loopI (X := X) (PP := PL) (oa := od) (xs := xs) (items := (y :: l).toArray) (p := s.heap.objs.size) (pins := pins) (σ := σ) (fun _ _ s h => ⟨hPs _ _ s h.1, s _ _ h.2⟩) (fun _ h => h.2) hda (by rw [← hi] at *; simpa using hv) hg (fun b hb => hcl b (List.mem_cons_of_mem _ hb)) hf hr hna (by rw [hlen, hv.length, hi]; simp)
      (fun i x hx => ?_) hsz _ 0 _ _ #[] _ [] rfl (Nat.zero_le _) I2 ht1 ⟨hPa H od hP, q1⟩ (I1.fpOk (Nat.le_refl _) (I1.hok.fresh (Nat.le_refl _))) (Heap.get?_push_size _ rfl) rfl (by simp) fun H' s' u hs I' => ?_
    · obtain ⟨t, h1, h2⟩ := hT i x hx
      exact ⟨t, h1, h2.imp fun H' h => h.1⟩
    · have qa : H' a = some (.frz od (.lst xs)) := hs _ _ q1
      refine hR (upd H' a (.lst xs)) s' u (fun b o e => ?_) (I'.unlock qa hnf)
      by_cases hb : b = a
      · subst hb
        rw [hHa] at e
        cases e
        exact upd_same
      · rw [upd_ne hb]
        exact hs _ _ (by rw [upd_ne hb]; exact e)
end
end NG

namespace NG
open PySem PySem.Spec PyProof.Rows L2 He
open Builtin Builtin.List
/-- a list's items: each shown where PP holds -/
structure LsI (X : Cx) (P PP : Hp → Prop) (a : Addr) (xs : List V) (ts : List Str) (as : List Addr) (k : Nat) : Prop where
  same : ∀ H H', Same H H' → PP H → PP H'
  lock : ∀ H oa, P H → PP (upd H a (.frz oa (.lst xs)))
  at_ : ∀ H, P H → H a = some (.lst xs)
  not : a ∉ as
  len : ts.length = xs.length
  item : ∀ (i : Nat) (x : V), xs[i]? = some x → ∃ t, ts[i]? = some t ∧ RpI X PP as k x t
section
variable {X : Cx} {P PP : Hp → Prop} {a : Addr} {xs : List V} {ts : List Str} {as : List Addr} {k : Nat}
theorem typeIs_lst {pins : List (Addr × Obj)} {σ : L2.St} {H : Hp} {s : Shared} (I : Inv X pins σ H s) (h : H a = some (.lst xs)) : ∃ its n, Vals xs its ∧ s.heap.get? a = some { cls := .type "list", data := .seq its.toArray n } ∧ s.TypeIs (.ref a) "list" := by
  obtain ⟨hz, its, n, hv, e2⟩ := (show ObjOk X.prog X.w H s.heap a (.lst xs) from I.hok a _ h)
  exact ⟨its, n, hv, e2, ⟨_, e2, rfl⟩⟩
theorem RpI.lst (h : LsI X P PP a xs ts as k) : RpI X P (a :: as) (k + 1) (.ref a) (listText ts) := by
  intro base hb A g pins σ H s u Q E hg ht hc hf hr I hP r hQ
  cases r
  obtain ⟨its, n, hv, e2, hTy⟩ := typeIs_lst I (h.at_ H hP)
  refine wpAny_pyReprUnder_ref (by omega) ?_
  by_cases hne : xs = []
  · subst hne
    cases hv
    have : ts = [] := List.eq_nil_of_length_eq_zero (by rw [h.len]; rfl)
    subst this
    exact wpAny_pyReprObjUnder_list_empty hTy (by have := hr.un; omega) e2 rfl ⟨_, _, rfl, hQ H _ (Same.refl _) (I.tok _)⟩
  · refine wpAny_pyReprObjUnder_twin (twin := "list.__repr__.under") hTy F.slot_list_repr.toG rfl (by have := hr.un; omega) ?_
    refine call_twin_plain F.plain_list_repr_under F.entry_list_repr_under F.check_list_repr_under hTy F.slot_list_repr.toG (F.args_list_repr_1 _) ?_
    refine list_headI (R := callEnd _ E) hne h.same h.lock h.at_ hg ht hc hf hr h.not h.len h.item hb I hP fun H' s' u hs I' => ?_
    exact ⟨⟨_, _, rfl⟩, _, _, rfl, hQ H' s' hs I'⟩
/-- .. from outside -/
theorem call_lst (h : LsI X P PP a xs ts as k) (hz : (listText ts).length ≤ sizeLine) {A : Around} {g : List Code} {pins : List (Addr × Obj)} {σ : L2.St} {H : Hp} {s : Shared} {Q : Value → Shared → Prop} {E : Value → Shared → Prop}
    (hg : A.guards = some g) (ht : GTr g H) (hc : ∀ b ∈ a :: as, Clear g b) (hf : A.frames = X.A.frames) (hr : Room (k + 1) A) (I : Inv X pins σ H s) (hP : P H)
    (hQ : ∀ H' s' u, Same H H' → Inv X pins σ H' s' → Q (.str (listText ts) u) s') : wpAny (model X.prog X.w) A (call (.builtin "list.__repr__") [.ref a]) Q E s := by
  obtain ⟨its, n, hv, e2, hTy⟩ := typeIs_lst I (h.at_ H hP)
  by_cases hne : xs = []
  · subst hne
    cases hv
    have : ts = [] := List.eq_nil_of_length_eq_zero (by rw [h.len]; rfl)
    subst this
    exact call_list_repr_empty hTy e2 rfl (hQ H _ _ (Same.refl _) (I.tok _))
  · refine wpAny_call (codeAny_call_builtin F.slot_list_repr.plain F.entry_list_repr (F.slot_list_repr.check _ _ _ _ _ _ _ _ hTy (F.args_list_repr_1 _) ?_))
    exact list_headI (base := 0) (R := callEnd _ E) hne h.same h.lock h.at_ hg ht hc hf hr h.not h.len h.item (by omega) I hP fun H' s' u hs I' => hQ H' s' u hs I'
theorem top_lst (h : LsI X P PP a xs ts as k) (hz : (listText ts).length ≤ sizeLine) {A : Around} {g : List Code} {pins : List (Addr × Obj)} {σ : L2.St} {H : Hp} {s : Shared} {Q : Value → Shared → Prop} {E : Value → Shared → Prop}
    (hg : A.guards = some g) (ht : GTr g H) (hc : ∀ b ∈ a :: as, Clear g b) (hf : A.frames = X.A.frames) (hr : Room (k + 1) A) (I : Inv X pins σ H s) (hP : P H)
    (hQ : ∀ H' s' u, Same H H' → Inv X pins σ H' s' → Q (.str (listText ts) u) s') : wpAny (model X.prog X.w) A (pyReprObj (.ref a)) Q E s := by
  obtain ⟨its, n, hv, e2, hTy⟩ := typeIs_lst I (h.at_ H hP)
  unfold pyReprObj
  refine wpAny_bind (wpAny_cRoomFor (by have := hr.un; omega) ?_)
  refine wpAny_bind (wpAny_specialOf (name := Str.ofString "__repr__") hTy F.slot_list_repr.lookup ?_)
  refine wpAny_bind (m := callSpecialIfBound? (.ref a) (Str.ofString "__repr__")) (wpAny_callSpecialIfBound?_slot (name := Str.ofString "__repr__") hTy F.slot_list_repr
    (call_lst h hz hg ht hc hf hr I hP fun H' s' u hs I' => ?_))
  exact wpAny_bind (wpAny_isInstance (T := "str") (b := true) rfl isSubtype_str_str (wpAny_pure (hQ H' s' u hs I')))
/-! ### tuples -/
theorem tup_foldI {A : Around} {g : List Code} {pins : List (Addr × Obj)} {σ : L2.St} {E : Value → Shared → Prop} (hPs : ∀ H H', Same H H' → P H → P H') (hg : A.guards = some g) (hcl : ∀ b ∈ as, Clear g b) (hf : A.frames = X.A.frames) (hr : Room k A) :
    ∀ (l : List Value) (xs : List V) (ts : List Str) (acc : Array Str) (n : Nat) (H : Hp) (s : Shared) (Q : (Array Str × Nat) → Shared → Prop), Vals xs l → Paired (fun x t => RpI X P as k x t) xs ts → n + piled ts ≤ sizeLine → Inv X pins σ H s → GTr g H → P H →
    (∀ H' s', Same H H' → Inv X pins σ H' s' → Q ⟨acc ++ ts.toArray, n + piled ts⟩ s') → wpAny (model X.prog X.w) A (forIn l (⟨acc, n⟩ : (Array Str × Nat)) tupBody) Q E s := by
  intro l
  induction l with
  | nil =>
    intro xs ts acc n H s Q hv hT _ I _ _ h
    cases hv
    cases hT
    have h0 := h H s (Same.refl _) I
    simp only [List.forIn_nil]
    exact wpAny_pure (by simpa [piled] using h0)
  | cons u l ih =>
    intro xs ts acc n H s Q hv hT hn I ht hP h
    cases hv with
    | cons ru hv =>
      cases hT with
      | cons hx hl =>
        rename_i v xs' t ts'
        rw [piled_cons] at hn
        rw [List.forIn_cons]
        refine wpAny_bind (wpAny_bind (hx (n + 1) (by omega) _ _ _ _ _ _ _ _ _ hg ht hcl hf hr I hP ru fun H1 s1 hs1 I1 => wpAny_pure ?_))
        refine ih xs' ts' (acc.push t) (n + (t.length + 2)) H1 _ Q hv hl (by omega) I1 (ht.same hs1) (hPs _ _ hs1 hP) fun H' s' hs I' => ?_
        have h1 := h H' s' (hs1.trans hs) I'
        have e : n + piled (t :: ts') = n + (t.length + 2) + piled ts' := by rw [piled_cons]; omega
        rw [e] at h1
        simpa using h1
theorem under_tup_dp (A : Around) (args : Args) : (A.under (.builtin "tuple.__repr__.under" args)).depth = A.depth + 1 := by
  show A.depth + Code.weight _ = _
  have e : (Code.builtin "tuple.__repr__.under" args).isGuard = true := isGuard_tuple_repr_under args
  unfold Code.weight
  rw [e]
  rfl
theorem Room.tupU {k : Nat} {A : Around} (r : Room (k + 1) A) (args : Args) : Room k (A.under (.builtin "tuple.__repr__.under" args)) :=
  ⟨r.hd, by have := r.dp; rw [under_tup_dp]; omega, by have := r.un; rw [units_under_tuple_repr_under]; omega⟩
theorem paired_len {α β : Type} {F : α → β → Prop} : ∀ {l₁ : List α} {l₂ : List β}, Paired F l₁ l₂ → l₂.length = l₁.length
  | _, _, .nil => rfl
  | _, _, .cons _ t => by rw [List.length_cons, List.length_cons, paired_len t]
theorem RpI.tup (hPs : ∀ H H', Same H H' → P H → P H') (hPe : ∀ H, P H → H a = some (.tup xs)) (hna : a ∉ as) (hT : Paired (fun x t => RpI X P as k x t) xs ts) : RpI X P (a :: as) (k + 1) (.ref a) (tupleText ts) := by
  intro base hb A g pins σ H s u Q E hg ht hc hf hr I hP r hQ
  cases r
  have ha := hPe H hP
  obtain ⟨hz, its, hv, o, e, hcl, n, hd⟩ := (show ObjOk X.prog X.w H s.heap a (.tup xs) from I.hok a _ ha)
  have hTy : s.TypeIs (.ref a) "tuple" := ⟨o, e, hcl⟩
  have hlen : ts.length = its.toArray.size := by
    rw [paired_len hT, hv.length]; simp
  have hp := piled_le_tupleText ts
  refine wpAny_pyReprUnder_ref (by omega) (wpAny_pyReprObjUnder_twin (twin := "tuple.__repr__.under") hTy F.slot_tuple_repr rfl (by have := hr.un; omega) ?_)
  refine call_twin_own (F.quiet_tuple_repr_under _) F.entry_tuple_repr_under F.check_tuple_repr_under hTy F.slot_tuple_repr (F.args_tuple_repr_1 _) ?_
  rw [tuple_repr_tree, tupleReprUnderWay_eq]
  refine wpOwn_bind (wpOwn_stackTailAny hg (tupGuardF_off _) (tupGuardF_pos _) ?_)
  have hn : (g.any fun c => tupGuardF (.ref a) (c, default)) = false := by
    rw [List.any_eq_false]
    intro c hcm
    rw [tupGuardF_of_clear (hc a List.mem_cons_self) c hcm]
    exact Bool.false_ne_true
  rw [hn]
  refine wpOwn_of_wpAny ?_
  show wpAny _ _ (tupleReprRest base (.ref a)) _ _ s
  unfold tupleReprRest Builtin.Tuple.tupleItemsOf
  refine wpAny_bind (wpAny_bind (wpAny_seqItems e hd (wpAny_pure ?_)))
  rw [← Array.forIn_toList]
  refine wpAny_bind (tup_foldI hPs (guards_under_guard (isGuard_tuple_repr_under _) hg) (fun b hb => (hc b (.tail _ hb)).cons (a := a) fun e => hna (e ▸ hb)) ((under_frames (isGuard_tuple_repr_under _)).trans hf) (Room.tupU hr _) _ xs ts _ _ H s _ (by simpa using hv) hT (by omega) I (ht.cons ha) hP fun H' s' hs I' => ?_)
  refine wpAny_bind (wpAny_mkStr (wpAny_pure ?_) (by simpa [tupleText, hlen] using (by omega : (tupleText ts).length ≤ sizeLine)))
  have h1 := hQ H' _ hs (I'.tok (s'.toks + 1))
  refine ⟨⟨_, _, rfl⟩, ?_⟩
  refine ⟨tupleText ts, s'.toks, ?_, h1⟩
  simp [tupleText, hlen]
end
end NG

set_option Elab.async false
set_option linter.all false
set_option maxRecDepth 100000
set_option maxHeartbeats 2000000
/-! defs that know which reprs are under way -/
namespace NG
open PySem PySem.Spec PyProof.Rows L2 He
/-- a promise that knows them -/
abbrev SpG := List Code → Sp
structure FnG (P : Program) (w : World) (K : PySem.W.Frag) (mg : Str → Option Value) (base : Heap) (CX : CXT) (k : Nat) (f : Addr) (fd : FuncData) (ps : List Str) (sp : SpG) : Prop where
  len : ∀ g vs H Q E, sp g vs H Q E → vs.length = ps.length
  run : ∀ (A : Around) (outer : List Env) (s : Shared) (H : Hp) (args : Args) (us : List Value) (vs : List V) (Q : VK) (E : XK) (g : List Code), A.guards = some g → Room k A → Env0 P w K mg base A outer s H → BindsTo s fd args (ps.zip us) → Vals vs us → sp g vs H Q E →
    codeAny (model P w) A (.call (.ref f) args) (CR CX outer P w H s Q E) s
section
variable {P : Program} {w : World} {K : PySem.W.Frag} {mg : Str → Option Value} {base : Heap} {CX : CXT} {k : Nat} {f : Addr} {fd : FuncData} {ps : List Str}
theorem FnG.of {sp : Sp} (F : FnOk P w K mg base CX k f fd ps sp) : FnG P w K mg base CX k f fd ps (fun _ => sp) :=
  ⟨fun g vs H Q E h => F.len vs H Q E h, fun A outer s H args us vs Q E g _ hr e hb hv h => F.run A outer s H args us vs Q E hr e hb hv h⟩
end
theorem deeper_guards (A : Around) (env : Env) : (A.deeper env).guards = A.guards := by
  first | rfl | simp [Around.deeper]
/-- a def's body, its guards known -/
theorem _root_.L2.FunD.okG {P : Program} {w : World} {K : PySem.W.Frag} {mg : Str → Option Value} {base : Heap} {CX : CXT} {x qual : Str} {params : Arguments} {body : List Stmt} {scope : Scope} {dvs : List V} {kws : List (Str × V)} {f : Addr} {fd : FuncData} {N ps : List Str} {k : Nat} {sp : SpG} (F : FunD K x qual params body scope dvs kws f fd) (S : FnScope N ps scope)
    (len : ∀ g vs H Q E, sp g vs H Q E → vs.length = ps.length)
    (hbody : ∀ (cdv : Value) (A : Around) (outer : List Env) (s : Shared) (H : Hp) (vs : List V) (Q : VK) (E : XK) (g : List Code), A.guards = some g → Room k (A.deeper (envOfC qual scope s.heap.objs.size f cdv)) → sp g vs H Q E →
      ∃ t, PSs (cxOf CX P w K mg base N qual scope f cdv A outer s H E) body t ∧ t { nx := fun _ H' => Q .non H', rt := Q } (start N vs) H) : FnG P w K mg base CX (k + 1) f fd ps sp := by
  obtain ⟨oc, od, dV, kV, doc, pm, an, cdv, ct, osl, rfl, lk, hcd, _, _⟩ := F.ex
  refine ⟨len, fun A outer s H args us vs Q E g hg hr e0 hb r hsp => ?_⟩
  have KX : K.In s.heap := e0.mod.kin.keeps fun b o e => (e0.bs b o e).1
  have hkind : ∀ y ∈ ps.zip us, scope.names.lookup y.1 = some .local ∨ (scope.names.lookup y.1 = some .cell ∧ ((cellsFrom (s.heap.objs.size + 1) scope.names []).lookup y.1).isSome = true) := fun ⟨n, v⟩ hy =>
    (S.par n (List.of_mem_zip hy).1).elim .inl fun q => .inr ⟨q, PySem.W.cellsFrom_some _ _ _ (.inl q)⟩
  refine codeAny_call_function hr.depth (KX _ _ lk) rfl S.co S.gen rfl (PySem.W.codeRec_of KX hcd) (hb _ _ _ _ (wpAny_newFunctionEnv_cells S.kind hkind fun env he s1 z => ?_))
  subst he
  refine ⟨(e0.mod.nolimit.keeps fun b o e => (e0.bs b o e).1).keeps z.toInCall.keep, codeAny_func ?_⟩
  obtain ⟨t, ht, hq⟩ := hbody cdv A outer s H vs Q E g hg (hr.deeper _) hsp
  have I : Inv (cxOf CX P w K mg base N qual scope f cdv A outer s H E) [] (start N vs) H s1 := inv_start S hr.hd e0 (len _ _ _ _ _ hsp) r z
  refine wpAny_mono (ht.run [] s1 (start N vs) H _ I hq) (fun fl s' hs => ?_) fun _ _ hs => hs
  cases fl with
  | ret u => exact let ⟨v, _, H', J, rv, q⟩ := hs; ⟨v, H', J.os, J.bare, J.base, J.hok, rv, q⟩
  | next => exact let ⟨_, H', J, q⟩ := hs; ⟨.non, H', J.os, J.bare, J.base, J.hok, rfl, q⟩
  | brk => exact False.elim (let ⟨_, _, _, q⟩ := hs; q)
  | cont => exact False.elim (let ⟨_, _, _, q⟩ := hs; q)
section
variable {X : Cx} {CX : CXT} {k : Nat} {f : Addr} {fd : FuncData} {ps : List Str} {sp : SpG} {dvs : List V} {ds : List Value} {E : XK} {x : Str} {p pos apos : Pos} {e o : Expr} {es : List Expr} {ta : TE} {t : TA} {g : List Code}
theorem run_fnG {pins : List (Addr × Obj)} {σ : L2.St} {H : Hp} {s : Shared} {Q : VK} {us : List Value} {vs : List V} (F : FnG X.prog X.w X.K X.mg X.base CX k f fd ps sp) (hg : X.A.guards = some g) (hr : Room k X.A) (hb : Binds X.K fd ps ds) (hd : Vals dvs ds) (hx : Passes CX X E)
    (I : Inv X pins σ H s) (r : Vals vs us) (h : sp g (vs ++ dvs) H Q E) : wpAny (model X.prog X.w) X.A (call (.ref f) us) (EP X pins σ Q) X.xe s := by
  have r2 : Vals (vs ++ dvs) (us ++ ds) := r.append hd
  have hl : (us ++ ds).length = ps.length := r2.length.symm.trans (F.len _ _ _ _ _ h)
  refine wpAny_call (codeAny_mono (F.run X.A X.stack s H ⟨us, []⟩ (us ++ ds) (vs ++ dvs) Q E g hg hr I.env0 (hb s us I.kIn hl) r2 h) fun r s' hq => ?_)
  match r, hq with
  | .error e, hq => exact hx pins σ H s e s' I hq
  | .ok (.ret u), hq => exact I.after hq
theorem pe_callG (F : FnG X.prog X.w X.K X.mg X.base CX k f fd ps sp) (hgs : X.A.guards = some g) (hr : Room k X.A) (hg : Gl X x) (hm : X.mg x = some (.ref f)) (hk : PySem.W.keepIn X.K (.ref f) = true) (hb : Binds X.K fd ps ds) (hd : Vals dvs ds) (hx : Passes CX X E)
    (ha : PA X (e :: es) t) (hdb : (x == ("__debug__" : Str)) = false := by decide) (he : starEach (e :: es) X.env = (false, eval e X.env) :: starEach es X.env := by rfl) (hpl : (backTo pos (starEach es X.env)).any (·.1) = false := by rfl) :
    PE X (.Call (.Name x p) (e :: es) [] pos) (tCall (sp g) dvs E t) :=
  ⟨fun pins s σ H Q I h => wpAny_Call_Name_kw (ld_glob I hg hm (PySem.W.callWith_K (h₀ := X.base) I.ok.mod.kin hk (thn (ha.run pos pins s σ H _ I h) fun us s1 ⟨vs, H1, I1, r, q⟩ => ⟨I1.kIn, run_fnG F hgs hr hb hd hx I1 r q⟩) he hpl) hdb)⟩
end
/-! ### repr of own things -/
section
variable {X : Cx} {P : Hp → Prop} {as : List Addr} {k : Nat} {a C f : Addr} {t : Str} {fd : FuncData} {ps : List Str} {sp : SpG}
theorem boundBy_own {M : Model} {A : Around} {E : Value → Shared → Prop} {s : Shared} {K : Fg} {x : Addr} {ox : Obj} {od : Option Obj} {name : Str} {last : Value → List Value → Sem Value} {Q : Option Value → Shared → Prop} (KX : K.In s.heap) (I : PySem.W.InstAt s.heap x ox C od) (hs : PySem.W.findIn K (.ref C) name = some (some (.ref f))) (hf : PySem.W.isFn K (.ref f) = true)
    (h : wpAny M A (last (.ref f) [.ref x]) (fun v => Q (some v)) E s) : wpAny M A (callSpecialIfBoundBy? last (.ref x) name) Q E s := by
  simp only [callSpecialIfBoundBy?, bindSpecialIfBound?]
  refine wpAny_holding (wpAny_bind (wpAny_bind (wpAny_bind (I.type.here ((PySem.W.looks_findIn KX hs).here (wpAny_bind (wpAny_askSetting (wpAny_ite ?_))))))))
  have fin : wpAny M A (last (.ref f) [.ref x] >>= fun v => pure (some v)) Q E s := wpAny_bind (wpAny_mono h (fun v s' h' => wpAny_pure h') fun _ _ h' => h')
  split
  · exact wpAny_bind ((PySem.W.bind_fn KX _ (beq_iff_eq.mp hf)).here (wpAny_pure (by exact fin)))
  · exact wpAny_tryCatch (wpAny_bind ((PySem.W.bind_fn KX _ (beq_iff_eq.mp hf)).here (wpAny_pure (by exact fin))))
/-- an own thing, by its __repr__ -/
theorem RpI.own (F : FnG X.prog X.w X.K X.mg X.base CX0 k f fd ps sp) (hb : Binds X.K fd ps []) (hs : PySem.W.findIn X.K (.ref C) "__repr__" = some (some (.ref f))) (hf : PySem.W.isFn X.K (.ref f) = true)
    (hP : ∀ H, P H → ∃ dx fs, H a = some (.ins C dx fs)) (hsp : ∀ H g, P H → GTr g H → (∀ b ∈ as, Clear g b) → sp g [.ref a] H (fun v H' => v = .str t ∧ Same H H') (fun _ _ _ => False)) : RpI X P as k (.ref a) t := by
  intro base hbs A g pins σ H s u Q E hg ht hc hfr hr I p r hQ
  cases r
  obtain ⟨dx, fs, ha⟩ := hP H p
  obtain ⟨mA, O, _⟩ := ins_get I.hok ha
  obtain ⟨od, J, _⟩ := O.look
  refine wpAny_pyReprUnder_ref (by omega) ?_
  unfold pyReprObjUnder pyReprObjBy
  refine wpAny_bind (wpAny_cRoomFor hr.units0 ?_)
  refine wpAny_bind (wpAny_bind (J.type.here ((PySem.W.looks_findIn I.kIn hs).here ?_)))
  show wpAny _ _ (if (some (Value.ref f)).isNone = true then _ else _) _ _ _
  rw [if_neg (by simp)]
  refine wpAny_bind (boundBy_own I.kIn J hs hf ?_)
  show wpAny _ _ (call (.ref f) ([.ref a] ++ [])) _ _ _
  have h := hsp H g p ht hc
  have e0 := I.env0
  refine wpAny_call (codeAny_mono (F.run A X.stack s H ⟨[.ref a] ++ [], []⟩ [.ref a] [.ref a] _ _ g hg hr ⟨hfr.trans e0.frames, e0.mod, e0.bs, e0.bsz, e0.funs, e0.frf, e0.hok, e0.bare⟩ (hb s [.ref a] I.kIn (F.len _ _ _ _ _ h)) (.cons rfl .nil) h) fun r s' hq => ?_)
  match r, hq with
  | .ok (.ret v), hq =>
    obtain ⟨x, H', I', rv, rfl, hs'⟩ := I.after hq
    obtain ⟨tk, rfl⟩ := rv
    exact wpAny_bind (wpAny_isInstance (T := "str") (b := true) rfl isSubtype_str_str (wpAny_pure ⟨_, _, rfl, hQ H' s' hs' I'⟩))
end
/-! ### repr(list), {list!r} -/
section
variable {X : Cx} {g : List Code}
/-- a list that is shown as t now -/
def ShowL (X : Cx) (k : Nat) (g : List Code) (v : V) (H : Hp) (t : Str) : Prop := ∃ (a : Addr) (P PP : Hp → Prop) (xs : List V) (ts : List Str) (as : List Addr), v = .ref a ∧ t = listText ts ∧ LsI X P PP a xs ts as k ∧ (listText ts).length ≤ sizeLine ∧ GTr g H ∧ (∀ b ∈ a :: as, Clear g b) ∧ P H
theorem call_reprL {k : Nat} (hg : X.A.guards = some g) (hr : Room (k + 2) X.A) : CallR X (.builtin "repr") (fun xs H Q => ∃ v t, xs = [v] ∧ ShowL X k g v H t ∧ ∀ H', Same H H' → Q (.str t) H') := by
  intro pins s σ H vs us Q I r h
  obtain ⟨v, t, rfl, ⟨a, P, PP, xs, ts, as, rfl, rfl, L, hz, ht, hc, p⟩, q⟩ := h
  obtain ⟨u, rfl, ru⟩ := vals1 r
  cases ru
  refine Calls.call_function_entry PySem.F.kind_repr PySem.F.plain_repr PySem.F.entry_repr (PySem.F.args_repr1 _) ?_
  unfold Builtin.«repr»
  refine wpAny_bind (m := oneArg "repr" _) (wpAny_pure ?_)
  obtain ⟨its, n, hv, e2, hTy⟩ := typeIs_lst I (L.at_ H p)
  refine wpAny_bind (wpAny_cRoomFor (Room.in1 hr).units0 ?_)
  refine wpAny_bind (wpAny_specialOf (name := Str.ofString "__repr__") hTy F.slot_list_repr.lookup ?_)
  refine wpAny_bind (m := callSpecialIfBound? (.ref a) (Str.ofString "__repr__")) (wpAny_callSpecialIfBound?_slot (name := Str.ofString "__repr__") hTy F.slot_list_repr
    (call_lst (A := X.A.in1) L hz hg ht hc rfl (Room.in1 hr) I p fun H' s' w hs I' => ?_))
  refine wpAny_bind (wpAny_isInstance (T := "str") (b := true) rfl isSubtype_str_str ?_)
  exact wpAny_pure ⟨_, rfl, .str _, H', I', ⟨_, rfl⟩, q H' hs⟩
theorem pe_fmtL {k : Nat} {e : Expr} {te : TE} {pos : Pos} (hg : X.A.guards = some g) (hr : Room (k + 1) X.A) (he : PE X e te) : PE X (.FormattedValue e 114 none pos) (fun σ H Q => te σ H fun v H1 => ∃ t, ShowL X k g v H1 t ∧ ∀ H', Same H1 H' → Q (.str t) H') := by
  refine ⟨fun pins s σ H Q I h => ?_⟩
  refine wpAny_FormattedValue_repr (thn (he.run pins s σ H _ I h) fun v s1 hv => ?_)
  obtain ⟨x, H1, I1, r1, t, ⟨a, P, PP, xs, ts, as, rfl, rfl, L, hz, ht, hc, p⟩, q⟩ := hv
  cases r1
  refine top_lst L hz hg ht hc rfl hr I1 p fun H' s' w hs I' => ?_
  exact wpAny_formatField_str ⟨.str _, H', I', ⟨_, rfl⟩, q H' hs⟩ ⟨.str _, H', I'.tok _, ⟨_, rfl⟩, q H' hs⟩ hz
end
end NG

set_option Elab.async false
set_option linter.all false
set_option maxRecDepth 100000
set_option maxHeartbeats 400000
/-! == and != of own things, both answers -/
namespace PySem.W
open PySem PySem.Calls PyProof.Rows
section
variable {prog : Program} {w : World} {A : Around} {E : Value → Shared → Prop} {s : Shared} {K : Frag} {x C L f : Addr} {h₀ : Heap} {m : Str → Option Value} {ox : Obj} {od : Option Obj}
theorem ng_boundB {M : Model} {name : Str} {id : String} {args : List Value} {Q : Option Value → Shared → Prop} (X : K.In s.heap) (I : InstAt s.heap x ox C od) (hs : findIn K (.ref C) name = some (some (.builtin id))) (hb : ∀ self, bindSpecial (.builtin id) self = pure (.builtin id, [self]))
    (h : wpAny M A (call (.builtin id) (.ref x :: args)) (fun v => Q (some v)) E s) : wpAny M A (callSpecialIfBound? (.ref x) name args) Q E s := by
  simp only [callSpecialIfBound?, bindSpecialIfBound?]
  refine wpAny_holding (wpAny_bind (wpAny_bind (wpAny_bind (I.type.here ((looks_findIn X hs).here (wpAny_bind (wpAny_askSetting (wpAny_ite ?_))))))))
  have fin : wpAny M A (call (.builtin id) ([.ref x] ++ args) >>= fun v => pure (some v)) Q E s := wpAny_bind (wpAny_mono h (fun v s' h' => wpAny_pure h') fun _ _ h' => h')
  split
  · exact wpAny_bind ((Looks.of_pure (hb _)).here (wpAny_pure (by exact fin)))
  · exact wpAny_tryCatch (wpAny_bind ((Looks.of_pure (hb _)).here (wpAny_pure (by exact fin))))
theorem ng_ne {Q : Value → Shared → Prop} {b : Value} (hu : A.units + 1 < cLine) (F : Fr h₀ L s.heap m) (X₀ : K.In h₀) (I : InstAt s.heap x ox C od) (hb : Looks (model prog w) s.heap (typeOf b) (.ref C))
    (hn : findIn K (.ref C) "__ne__" = some (some (.builtin "object.__ne__"))) (hm : mroIn K C (.type "object") = some true) (hs : findIn K (.ref C) "__eq__" = some (some (.ref f))) (hf : isFn K (.ref f) = true)
    (h : wpAny (model prog w) A.in1 (call (.ref f) [.ref x, b]) (fun v s' => ∃ c, v = .bool c ∧ Q (.bool (!c)) s') E s) : wpAny (model prog w) A (richCompare .NotEq (.ref x) b) Q E s := by
  have X := X₀.keeps F.keep
  have one : wpAny (model prog w) A (tryCompare (.ref x) "__ne__" b) (fun r s' => ∃ v, r = some v ∧ Q v s') E s := by
    unfold tryCompare
    refine wpAny_bind (ng_boundB X I hn PySem.F.slot_object_ne.bind ?_)
    refine wpAny_call (codeAny_call_builtin PySem.F.slot_object_ne.plain PySem.F.cmpEntry_ne (check_slot (i := "object.__ne__") (owner := "object") (n := "__ne__") PySem.F.cmpKind_ne PySem.F.cmpSplit_ne (I.type.andThen (looks_mroIn X hm)) (PySem.F.cmpArgs_ne _ _) ?_))
    unfold Builtin.«object.__ne__»
    refine wpAny_bind (m := slotArgs "__ne__" 1 _) (wpAny_pure ?_)
    dsimp only
    refine wpAny_bind (m := cRoomFor _ _) (wpAny_cRoomFor hu ?_)
    refine wpAny_bind (m := callSpecialIfBound? (.ref x) (Str.ofString "__eq__") _) (ifBound_K X I hs hf (wpAny_mono h (fun v s' hv => ?_) fun _ _ e => e))
    obtain ⟨c, rfl, hq⟩ := hv
    refine wpAny_bind (m := truthy (.bool c)) (wpAny_truthy_bool ?_)
    exact wpAny_pure (wpAny_pure ⟨_, rfl, hq⟩)
  unfold richCompare
  simp only [oneThing_ref]
  refine wpAny_holding (wpAny_bind (wpAny_cRoomFor (by omega) ?_))
  rw [cmpInfo_NotEq]
  dsimp only
  refine wpAny_bind (I.type.here (wpAny_bind (hb.here ?_)))
  rw [show (Value.ref C != Value.ref C) = false from by simp]
  simp only [Bool.false_eq_true, if_false]
  refine wpAny_bind (wpAny_pure ?_)
  simp only [Bool.false_eq_true, if_false]
  refine wpAny_bind (wpAny_mono one (fun r s' z => ?_) fun _ _ e => e)
  obtain ⟨v, rfl, hq⟩ := z
  exact wpAny_pure hq
end
end PySem.W
namespace NG
open PySem PySem.Spec PyProof.Rows L2 He
section
variable {X : Cx} {n : Nat} {C f : Addr} {fd : FuncData} {ps : List Str} {sp : Sp}
def NoX : XK := fun _ _ _ => False
/-- the own == answers a truth value -/
def rEqO (C : Addr) (sp : Sp) : V → V → Hp → VK → Prop := fun x y H Q => ∃ a b dx dy fs gs, x = .ref a ∧ y = .ref b ∧ H a = some (.ins C dx fs) ∧ H b = some (.ins C dy gs) ∧ sp [x, y] H (fun v H' => ∃ c, v = .bl c ∧ Q (.bl c) H') NoX
def rNeO (C : Addr) (sp : Sp) : V → V → Hp → VK → Prop := fun x y H Q => ∃ a b dx dy fs gs, x = .ref a ∧ y = .ref b ∧ H a = some (.ins C dx fs) ∧ H b = some (.ins C dy gs) ∧ sp [x, y] H (fun v H' => ∃ c, v = .bl c ∧ Q (.bl !c) H') NoX
theorem run_own {A : Around} {pins : List (Addr × Obj)} {σ : L2.St} {H : Hp} {s : Shared} {Q : VK} {us : List Value} {vs : List V} {R : Value → Shared → Prop} {E' : Value → Shared → Prop} (F : FnOk X.prog X.w X.K X.mg X.base CX0 n f fd ps sp) (hr : Room n A) (hfr : A.frames = X.A.frames) (hb : Binds X.K fd ps [])
    (I : Inv X pins σ H s) (r : Vals vs us) (h : sp vs H Q NoX) (hR : ∀ v H' u s', RelV v u → Inv X pins σ H' s' → Q v H' → R u s') : wpAny (model X.prog X.w) A (call (.ref f) us) R E' s := by
  have e := I.env0
  have hl : us.length = ps.length := r.length.symm.trans (F.len _ _ _ _ h)
  refine wpAny_call (codeAny_mono (F.run A X.stack s H ⟨us, []⟩ us vs Q NoX hr ⟨hfr.trans e.frames, e.mod, e.bs, e.bsz, e.funs, e.frf, e.hok, e.bare⟩ (by
    have := hb s us I.kIn (by simpa using hl)
    simpa using this) r h) fun r s' hq => ?_)
  match r, hq with
  | .ok (.ret u), hq =>
    obtain ⟨v, H', I', rv, q⟩ := I.after hq
    exact hR v H' u s' rv I' q
theorem op_eqO (F : FnOk X.prog X.w X.K X.mg X.base CX0 n f fd ps sp) (hr : Room n X.A) (hs : PySem.W.findIn X.K (.ref C) "__eq__" = some (some (.ref f))) (hf : PySem.W.isFn X.K (.ref f) = true) (hb : Binds X.K fd ps []) : OpR X (compareOp .Eq) (rEqO C sp) := by
  intro pins s σ H x y v u Q I rx ry h
  obtain ⟨a, b, dx, dy, fs, gs, rfl, rfl, ha, hb', q⟩ := h
  cases rx
  cases ry
  obtain ⟨mA, J, _⟩ := ins_get I.hok ha
  obtain ⟨mB, J', _⟩ := ins_get I.hok hb'
  obtain ⟨od, J, _⟩ := J.look
  obtain ⟨od', J', _⟩ := J'.look
  obtain ⟨m, hF⟩ := I.fr
  refine PySem.W.cmp_K (op := .Eq) (tb := .ref C) hr.units0 hF I.ok.mod.kin J J'.type (by simp [PySem.W.notFirst]) hs hf ?_
  refine run_own (vs := [.ref a, .ref b]) F hr rfl hb I (.cons rfl (.cons rfl .nil)) q fun v H' u s' rv I' z => ?_
  obtain ⟨c, rfl, z⟩ := z
  cases rv
  exact ⟨.bl c, H', I', rfl, z⟩
theorem op_neO (F : FnOk X.prog X.w X.K X.mg X.base CX0 n f fd ps sp) (hr : Room (n + 1) X.A) (t : InsT X.K C) (hn : PySem.W.findIn X.K (.ref C) "__ne__" = some (some (.builtin "object.__ne__"))) (hs : PySem.W.findIn X.K (.ref C) "__eq__" = some (some (.ref f))) (hf : PySem.W.isFn X.K (.ref f) = true) (hb : Binds X.K fd ps []) : OpR X (compareOp .NotEq) (rNeO C sp) := by
  intro pins s σ H x y v u Q I rx ry h
  obtain ⟨a, b, dx, dy, fs, gs, rfl, rfl, ha, hb', q⟩ := h
  cases rx
  cases ry
  obtain ⟨mA, J, _⟩ := ins_get I.hok ha
  obtain ⟨mB, J', _⟩ := ins_get I.hok hb'
  obtain ⟨od, J, _⟩ := J.look
  obtain ⟨od', J', _⟩ := J'.look
  obtain ⟨m, hF⟩ := I.fr
  refine PySem.W.ng_ne (by have := hr.un; omega) hF I.ok.mod.kin J J'.type hn t.hm hs hf ?_
  refine run_own (A := X.A.in1) (vs := [.ref a, .ref b]) F hr.in1 rfl hb I (.cons rfl (.cons rfl .nil)) q fun v H' u s' rv I' z => ?_
  obtain ⟨c, rfl, z⟩ := z
  cases rv
  exact ⟨c, rfl, .bl !c, H', I', rfl, z⟩
end
end NG

set_option Elab.async false
set_option linter.all false
set_option maxRecDepth 100000
set_option maxHeartbeats 400000
/-! the law's own draws: the state is folded into one thing -/
namespace NG
open PySem PySem.Spec PyProof.Rows L2 He
def okR (a b : Int) : Prop := 0 ≤ a ∧ 0 ≤ b ∧ b < 4294967296
/-- the state of the draws at r -/
def RngO (r : Addr) : HO := .ext fun h => ∃ (a b : Int) (t u : Tok) (n : Nat), h.get? r = some { cls := .type "list", data := .seq #[.int a t, .int b u] n } ∧ okR a b
section
variable {P : Program} {w : World} {K : Fg} {mg : Str → Option Value} {base : Heap}
theorem rng_unfold {H : Hp} {h : Heap} {r : Addr} (ok : HOk P w H h) (e : H r = some (RngO r)) : ∃ a b, okR a b ∧ HOk P w (upd H r (.lst [.int a, .int b])) h := by
  obtain ⟨⟨a, b, t, u, n, ho, hab⟩, _⟩ := (show ObjOk P w H h r (RngO r) from ok r _ e)
  refine ⟨a, b, hab, fun c o q => ?_⟩
  have nr : ∀ d o', H d = some o' → (∀ φ, o' ≠ .ext φ) → d ≠ r := fun d o' q2 hne z => by
    subst z
    rw [e] at q2
    cases q2
    exact hne _ rfl
  by_cases hc : c = r
  · subst hc
    rw [upd_same] at q
    cases q
    exact ⟨by show 2 ≤ sizeLine; decide, [.int a t, .int b u], n, .cons ⟨t, rfl⟩ (.cons ⟨u, rfl⟩ .nil), ho⟩
  · rw [upd_ne hc] at q
    refine (ok c o q).stay (fun d v _ z => z) (fun d z => ?_) fun d xs z => ?_
    · rw [upd_ne (nr d _ z fun _ y => nomatch y)]; exact z
    · rw [upd_ne (nr d _ z fun _ y => nomatch y)]; exact z
theorem rng_fold {H : Hp} {h : Heap} {r : Addr} {a b : Int} (ok : HOk P w H h) (e : H r = some (.lst [.int a, .int b])) (hab : okR a b) : HOk P w (upd H r (RngO r)) h := by
  obtain ⟨_, its, n, hv, ho⟩ := (show ObjOk P w H h r (.lst [.int a, .int b]) from ok r _ e)
  obtain ⟨x, y, rfl, ⟨t, rfl⟩, ⟨u, rfl⟩⟩ := vals2 hv
  intro c o q
  have nr : ∀ d o', H d = some o' → (∀ xs, o' ≠ .lst xs) → d ≠ r := fun d o' q2 hne z => by
    subst z
    rw [e] at q2
    cases q2
    exact hne _ rfl
  by_cases hc : c = r
  · subst hc
    rw [upd_same] at q
    cases q
    exact ⟨⟨a, b, t, u, n, ho, hab⟩, ⟨_, ho⟩, fun h1 h2 ⟨a, b, t, u, n, e1, e2⟩ k => ⟨a, b, t, u, n, k _ e1, e2⟩⟩
  · rw [upd_ne hc] at q
    refine (ok c o q).stay (fun d v _ z => z) (fun d z => ?_) fun d xs z => ?_
    · rw [upd_ne (nr d _ z fun _ y => nomatch y)]; exact z
    · rw [upd_ne (nr d _ z fun _ y => nomatch y)]; exact z
/-- a def whose first argument is the state: it may be told with the state laid open -/
theorem rng_fn {k : Nat} {f : Addr} {fd : FuncData} {ps : List Str} {sp : Sp} (F : FnOk P w K mg base CX0 k f fd ps sp) :
    FnOk P w K mg base CX0 k f fd ps (fun vs H Q E => vs.length = ps.length ∧ ∃ r, H r = some (RngO r) ∧ ∀ a b, okR a b → sp vs (upd H r (.lst [.int a, .int b])) (fun v H1 => ∃ a' b', okR a' b' ∧ H1 r = some (.lst [.int a', .int b']) ∧ Q v (upd H1 r (RngO r))) E) := by
  refine ⟨fun vs H Q E h => h.1, fun A outer s H args us vs Q E hr e0 hb hv h => ?_⟩
  obtain ⟨hl, r, e, h⟩ := h
  obtain ⟨a, b, hab, ok1⟩ := rng_unfold e0.hok e
  have nn : ∀ c, H c = none → c ≠ r := fun c q z => by rw [z, e] at q; cases q
  have nr : ∀ d o', H d = some o' → (∀ φ, o' ≠ .ext φ) → d ≠ r := fun d o' q2 hne z => by
    subst z
    rw [e] at q2
    cases q2
    exact hne _ rfl
  have e1 : Env0 P w K mg base A outer s (upd H r (.lst [.int a, .int b])) := ⟨e0.frames, e0.mod, fun c o q => ⟨(e0.bs c o q).1, by rw [upd_ne (nn c (e0.bs c o q).2)]; exact (e0.bs c o q).2⟩, e0.bsz, e0.funs, fun c hc => by rw [upd_ne (nn c (e0.frf c hc))]; exact e0.frf c hc, ok1, e0.bare⟩
  refine codeAny_mono (F.run A outer s _ args us vs _ E hr e1 hb hv (h a b hab)) fun q s' z => ?_
  match q, z with
  | .ok (.ret u), ⟨v, H', os, bare, un, hok, rv, a', b', hab', e', q⟩ =>
    refine ⟨v, upd H' r (RngO r), os, bare, ?_, rng_fold hok e' hab', rv, q⟩
    have nl : ∀ d o', H' d = some o' → (∀ xs, o' ≠ .lst xs) → d ≠ r := fun d o' q2 hne z => by
      subst z
      rw [e'] at q2
      cases q2
      exact hne _ rfl
    refine ⟨fun c o q n hc hx => un.keep c o q (by rw [upd_ne (nn c n)]; exact n) hc hx, fun c o q n hc hx => un.slot c o q (by rw [upd_ne (nn c n)]; exact n) hc hx, fun c o q n hx => ?_, un.there, fun c xs q => ?_, fun c o x q => ?_, fun c qs q => ?_⟩
    · have n2 := un.free c o q (by rw [upd_ne (nn c n)]; exact n) hx
      rw [upd_ne (nn c n)]; exact n2
    · have q1 := un.tups c xs (by rw [upd_ne (nr c _ q fun _ y => nomatch y)]; exact q)
      rw [upd_ne (nr c _ q fun _ y => nomatch y)]; exact q1
    · have q1 := un.frzs c o x (by rw [upd_ne (nr c _ q fun _ y => nomatch y)]; exact q)
      rw [upd_ne (nr c _ q fun _ y => nomatch y)]; exact q1
    · obtain ⟨m, q1⟩ := un.tbls c qs (by rw [upd_ne (nr c _ q fun _ y => nomatch y)]; exact q)
      exact ⟨m, by rw [upd_ne (nr c _ q fun _ y => nomatch y)]; exact q1⟩
  | .error e, z => exact z
end
section
variable {P : Program} {w : World} {K : Fg} {mg : Str → Option Value} {base : Heap}
/-- a def that gives back such a state -/
theorem rng_out {k : Nat} {f : Addr} {fd : FuncData} {ps : List Str} {sp : Sp} (F : FnOk P w K mg base CX0 k f fd ps sp) :
    FnOk P w K mg base CX0 k f fd ps (fun vs H Q E => sp vs H (fun v H1 => ∃ r a b, v = .ref r ∧ okR a b ∧ H1 r = some (.lst [.int a, .int b]) ∧ Q v (upd H1 r (RngO r))) E) := by
  refine ⟨fun vs H Q E h => F.len vs H _ E h, fun A outer s H args us vs Q E hr e0 hb hv h => ?_⟩
  refine codeAny_mono (F.run A outer s _ args us vs _ E hr e0 hb hv h) fun q s' z => ?_
  match q, z with
  | .ok (.ret u), ⟨v, H', os, bare, un, hok, rv, r, a, b, ev, hab, e', q⟩ =>
    refine ⟨v, upd H' r (RngO r), os, bare, ?_, rng_fold hok e' hab, rv, q⟩
    have nl : ∀ d o', H' d = some o' → (∀ xs, o' ≠ .lst xs) → d ≠ r := fun d o' q2 hne z => by
      subst z
      rw [e'] at q2
      cases q2
      exact hne _ rfl
    have nn : ∀ c, H' c = none → c ≠ r := fun c q z => by rw [z, e'] at q; cases q
    refine ⟨un.keep, un.slot, fun c o q n hx => ?_, un.there, fun c xs q => ?_, fun c o x q => ?_, fun c qs q => ?_⟩
    · have n2 := un.free c o q n hx
      rw [upd_ne (nn c n2)]; exact n2
    · have q1 := un.tups c xs q
      rw [upd_ne (nl c _ q1 fun _ y => nomatch y)]; exact q1
    · have q1 := un.frzs c o x q
      rw [upd_ne (nl c _ q1 fun _ y => nomatch y)]; exact q1
    · obtain ⟨m, q1⟩ := un.tbls c qs q
      exact ⟨m, by rw [upd_ne (nl c _ q1 fun _ y => nomatch y)]; exact q1⟩
  | .error e, z => exact z
end
theorem divp_small {i j : Int} (h : 0 < j) (hj : j.natAbs < 2 ^ 60) : CDivP i j := by
  refine ⟨h, ?_⟩
  have h60 : j.natAbs.log2 < 60 := PySem.Flt.log2_lt_of (by decide) hj
  show (decide ((if j == 0 then 0 else j.natAbs.log2 / 30 + 1) > 300) && _) = false
  have k : ¬ ((if j == 0 then 0 else j.natAbs.log2 / 30 + 1) > 300) := by
    split <;> omega
  rw [decide_eq_false k, Bool.false_and]
end NG

set_option Elab.async false
set_option linter.all false
set_option maxRecDepth 100000
set_option maxHeartbeats 400000
/-! _law_rng, _law_draw, _law_choice -/
namespace NG
open PySem PySem.Spec PyProof.Rows L2 He
variable {P : Program} {w : World} {K : Fg} {mg : Str → Option Value} {base : Heap}
theorem sc_draw : FnScope ["rng", "many", "digit"] ["rng", "many"] (defScope f__law_draw) := ⟨rfl, rfl, rfl, by decide +kernel, rfl, by decide +kernel, by decide +kernel⟩
def spDraw0 : Sp := fun vs H Q _ => ∃ (r : Addr) (m : Nat) (a b : Int), vs = [.ref r, .int m] ∧ 1 ≤ m ∧ m < 1073741824 ∧ H r = some (.lst [.int a, .int b]) ∧ okR a b ∧
  ∀ (d : Nat) (a' b' : Int) (H' : Hp), d < m → okR a' b' → But r H H' → H' r = some (.lst [.int a', .int b']) → Q (.int d) H'
def spDraw : Sp := fun vs H Q _ => ∃ (r : Addr) (m : Nat), vs = [.ref r, .int m] ∧ 1 ≤ m ∧ m < 1073741824 ∧ H r = some (RngO r) ∧ ∀ (d : Nat) (H' : Hp), d < m → Same H H' → Q (.int d) H'
theorem iteD {p : Prop} [Decidable p] {A B : Prop} (h1 : p → A) (h2 : ¬ p → B) : if decide p = true then A else B := by
  by_cases h : p
  · rw [decide_eq_true h]; exact iteT (h1 h)
  · rw [decide_eq_false h]; exact iteF (h2 h)
theorem rng_same {H H' : Hp} {r : Addr} {o : HO} (hr : H r = some (RngO r)) (bt : But r (upd H r o) H') : Same H (upd H' r (RngO r)) := fun c u e => by
  by_cases hc : c = r
  · subst hc
    rw [hr] at e
    cases e
    exact upd_same
  · rw [upd_ne hc]
    exact bt c u hc (by rw [upd_ne hc]; exact e)
theorem nat_of {i : Int} {m : Nat} (h0 : 0 ≤ i) (h1 : i < m) : ∃ d : Nat, i = d ∧ d < m := ⟨i.toNat, by omega, by omega⟩
theorem has_draw (e : Ev K mg) : Has P w K mg base 1 "_law_draw" ["rng", "many"] spDraw := by
  obtain ⟨fd, F⟩ := e.F_f__law_draw
  refine ⟨_, fd, e.g__law_draw, ?_, F.kp, F.bindsN fun _ _ _ _ _ _ us hl => match us, hl with | [_, _], _ => rfl⟩
  have F0 : FnOk P w K mg base CX0 1 (fAd K ("_law_draw", none)) fd ["rng", "many"] spDraw0 := by
    refine F.okD sc_draw (fun vs H Q E h => ?_) (fun cdv A outer s H vs Q E hr h => ?_)
    · obtain ⟨r, m, a, b, rfl, _⟩ := h; rfl
    · obtain ⟨r, m, a, b, rfl, m1, m2, hH, ⟨ha, hb0, hb⟩, q⟩ := h
      refine ⟨_, pss_cons (ps_if (pt_cmpR op_gt (pe_ix ix_list (pv 0) pe_int (fun _ _ => rfl)) pe_int (nomark _))
          (pss_cons (ps_asg (pe_callB call_divmodW rfl e.b_divmod boot_divmod (pa_cons (pe_ix ix_list (pv 0) pe_int (fun _ _ => rfl)) (pa_cons (pv 1) pa_nil)))
            (pg_tup rfl (pgs_cons (pg_sub (pv 0) pe_int set_list) (pgs_cons (pg_name (i := 2) sc_draw.nd rfl (Or.inl rfl)) pgs_nil))))
          (pss_one (ps_ret (pv 2)))) pss_nil)
        (pss_cons (ps_asg (pe_op op_mod (pe_callTy call_int1 rfl e.b_int boot_int (pa_cons (pe_op op_add (pe_op op_mulW (pe_ix ix_list (pv 0) pe_int (fun _ _ => rfl)) pe_int) pe_int) pa_nil)) pe_int) (pg_sub (pv 0) pe_int set_list))
        (pss_one (ps_ret (pe_op op_mod (pe_op op_fdiv (pe_op op_mod (pe_callTy call_int1 rfl e.b_int boot_int (pa_cons (pe_op op_mulW (pe_ix ix_list (pv 0) pe_int (fun _ _ => rfl)) (pe_ix ix_list (pv 0) pe_int (fun _ _ => rfl))) pa_nil)) pe_int) pe_int) (pv 1))))), ?_⟩
      refine ⟨_, rfl, r, _, 0, _, rfl, rfl, SqL.of hH, rfl, _, _, rfl, rfl, _, rfl, iteD (fun h0 => ?_) (fun h0 => ?_)⟩
      · refine ⟨_, rfl, r, _, 0, _, rfl, rfl, SqL.of hH, rfl, _, rfl, _, _, rfl, divp_small (by omega) (by omega), fun p hp => ?_⟩
        have hpr : r ≠ p := ne_of_none hH hp
        have hH2 : upd H p (.tup [.int (a / m), .int (a % m)]) r = some (.lst [.int a, .int b]) := by rw [upd_ne hpr]; exact hH
        refine ⟨p, _, rfl, SqT.of upd_same, rfl, _, _, rfl, ⟨_, rfl, r, _, 0, 0, rfl, rfl, hH2, rfl, ?_⟩⟩
        refine ⟨_, _, rfl, ⟨rfl, _, rfl, ?_⟩⟩
        obtain ⟨d, ed, hd⟩ := nat_of (i := a % m) (m := m) (Int.emod_nonneg _ (by omega)) (Int.emod_lt_of_pos _ (by omega))
        rw [ed]
        refine q d (a / m) b _ hd ⟨Int.ediv_nonneg ha (by omega), hb0, hb⟩ (fun c o hc e => ?_) upd_same
        rw [upd_ne hc, upd_ne (ne_of_none e hp)]
        exact e
      · refine ⟨_, rfl, r, _, 1, _, rfl, rfl, SqL.of hH, rfl, _, _, rfl, rfl, wide_mul (a := 32) (b := 32) (by omega) (by decide) (by decide) (by decide) (by decide), _, _, rfl, rfl, .inl ⟨_, rfl, _, _, rfl, rfl, (by show (0:Int) < 2147483563; decide), ?_⟩⟩
        refine ⟨_, rfl, r, _, 1, 1, rfl, rfl, hH, rfl, ?_⟩
        have g0 : (0 : Int) ≤ (b * 40693 + 27017) % 2147483563 := Int.emod_nonneg _ (by decide)
        have g1 : (b * 40693 + 27017) % 2147483563 < 2147483563 := Int.emod_lt_of_pos _ (by decide)
        obtain ⟨c, ec⟩ : ∃ c, c = (b * 40693 + 27017) % 2147483563 := ⟨_, rfl⟩
        rw [← ec] at g0 g1
        have hc : upd H r (.lst ([.int a, .int b].set 1 (.int ((b * 40693 + 27017) % 2147483563)))) r = some (.lst [.int a, .int c]) := by rw [upd_same, ec]; rfl
        refine ⟨_, rfl, r, _, 1, _, rfl, rfl, SqL.of hc, rfl, _, rfl, r, _, 1, _, rfl, rfl, SqL.of hc, rfl, _, _, rfl, rfl, wide_mul (a := 32) (b := 32) (by omega) (by omega) (by decide) (by decide) (by decide), .inl ⟨_, rfl, _, _, rfl, rfl, (by show (0:Int) < 2147483477; decide), _, _, rfl, rfl, (by show (0:Int) < 17 ∧ (17:Int) < 1073741824; decide), _, rfl, _, _, rfl, rfl, (by show (0:Int) < m; omega), ?_⟩⟩
        obtain ⟨d, ed, hd⟩ := nat_of (i := c * c % 2147483477 / 17 % m) (m := m) (Int.emod_nonneg _ (by omega)) (Int.emod_lt_of_pos _ (by omega))
        show Q (.int (c * c % 2147483477 / 17 % m)) _
        rw [ed]
        exact q d a c _ hd ⟨ha, g0, by omega⟩ But.upd hc
  refine (rng_fn F0).imp fun vs H Q E h => ?_
  obtain ⟨r, m, rfl, m1, m2, hr, q⟩ := h
  refine ⟨rfl, r, hr, fun a b hab => ⟨r, m, a, b, rfl, m1, m2, upd_same, hab, fun d a' b' H' hd ok' bt hH' => ⟨a', b', ok', hH', q d _ hd (rng_same hr bt)⟩⟩⟩
/-! ### _law_choice -/
theorem sc_choice : FnScope ["rng", "some"] ["rng", "some"] (defScope f__law_choice) := ⟨rfl, rfl, rfl, by decide +kernel, rfl, by decide +kernel, by decide +kernel⟩
/-- one of a list's items -/
def spChoice (K : Fg) : Sp := fun vs H Q _ => ∃ (r a : Addr) (xs : List V), vs = [.ref r, .ref a] ∧ H r = some (RngO r) ∧ SqL K H a xs ∧ (1 ≤ xs.length ∧ xs.length ≤ 1000) ∧ ∀ (v : V) (H' : Hp), v ∈ xs → Same H H' → Q v H'
theorem at_nat {α : Type} {xs : List α} {d : Nat} (h : d < xs.length) : ∃ v, atI xs ((d : Nat) : Int) = some v ∧ v ∈ xs := ⟨xs[d], atI_nat (List.getElem?_eq_getElem h), List.getElem_mem h⟩
theorem has_choice (e : Ev K mg) : Has P w K mg base 2 "_law_choice" ["rng", "some"] (spChoice K) := by
  obtain ⟨fd, F⟩ := e.F_f__law_choice
  refine ⟨_, fd, e.g__law_choice, ?_, F.kp, F.bindsN fun _ _ _ _ _ _ us hl => match us, hl with | [_, _], _ => rfl⟩
  obtain ⟨f1, d1, m1, G1, k1, b1⟩ := has_draw (P := P) (w := w) (base := base) e
  refine F.okD sc_choice (fun vs H Q E h => ?_) (fun cdv A outer s H vs Q E hr h => ?_)
  · obtain ⟨r, a, xs, rfl, _⟩ := h; rfl
  · obtain ⟨r, a, xs, rfl, hH, hs, ⟨hl, hl2⟩, q⟩ := h
    refine ⟨_, pss_one (ps_ret (pe_ix ix_list (pv 1) (pe_call G1 hr rfl m1 k1 b1 .nil pass0 (pa_cons (pv 0) (pa_cons (pe_callB call_len_seq rfl e.b_len boot_len (pa_cons (pv 1) pa_nil)) pa_nil))) (fun _ _ => rfl))), ?_⟩
    refine ⟨_, rfl, _, rfl, _, rfl, a, xs, rfl, .inl hs, r, xs.length, rfl, hl, by omega, hH, fun d H' hd s1 => ?_⟩
    obtain ⟨v, hv, hm⟩ := at_nat hd
    exact ⟨a, xs, d, v, rfl, rfl, s1.seq hs, hv, q v H' hm s1⟩
/-! ### _law_rng -/
theorem sc_rng : FnScope ["script", "k", "cell"] ["script", "k"] (defScope f__law_rng) := ⟨rfl, rfl, rfl, by decide +kernel, rfl, by decide +kernel, by decide +kernel⟩
def spRng (K : Fg) : Sp := fun vs H Q _ => ∃ (a : Addr) (ns : List Int) (k : Nat), vs = [.ref a, .int k] ∧ SqL K H a (ns.map V.int) ∧ ns.length ≤ 63 ∧ k < 100 ∧ ∀ (r : Addr) (H' : Hp), Same H H' → H' r = some (RngO r) → Q (.ref r) H'
theorem rng_ok (x y : Int) : okR (if x > 0 then x else 0) (y % 2147483489 + 1) := by
  have g0 : (0 : Int) ≤ y % 2147483489 := Int.emod_nonneg _ (by decide)
  have g1 : y % 2147483489 < 2147483489 := Int.emod_lt_of_pos _ (by decide)
  refine ⟨?_, by omega, by omega⟩
  split <;> omega
theorem rng_mul {k : Nat} {x : Int} (hk : k < 100) : CMulW (x % 2147483549 + 1) ((2 * (k : Int) + 7) ^ (3 : Int).toNat) := by
  have g0 : (0 : Int) ≤ x % 2147483549 := Int.emod_nonneg _ (by decide)
  have g1 : x % 2147483549 < 2147483549 := Int.emod_lt_of_pos _ (by decide)
  have e3 : (3 : Int).toNat = 3 := rfl
  refine wide_mul (a := 32) (b := 32) (by omega) ?_ (by decide) (by decide) (by decide)
  rw [e3, Int.natAbs_pow]
  have h1 : (2 * (k : Int) + 7).natAbs ≤ 207 := by omega
  exact Nat.lt_of_le_of_lt (Nat.pow_le_pow_left h1 3) (by decide)
theorem has_rng (e : Ev K mg) : Has P w K mg base 2 "_law_rng" ["script", "k"] (spRng K) := by
  obtain ⟨fd, F⟩ := e.F_f__law_rng
  refine ⟨_, fd, e.g__law_rng, ?_, F.kp, F.bindsN fun _ _ _ _ _ _ us hl => match us, hl with | [_, _], _ => rfl⟩
  have F0 : FnOk P w K mg base CX0 2 (fAd K ("_law_rng", none)) fd ["script", "k"] (fun vs H Q _ => ∃ (a : Addr) (ns : List Int) (k : Nat), vs = [.ref a, .int k] ∧ SqL K H a (ns.map V.int) ∧ ns.length ≤ 63 ∧ k < 100 ∧ ∀ (r : Addr) (x y : Int) (H' : Hp), okR x y → H r = none → Same H H' → H' r = some (.lst [.int x, .int y]) → Q (.ref r) H') := by
    refine F.okD sc_rng (fun vs H Q E h => ?_) (fun cdv A outer s H vs Q E hr h => ?_)
    · obtain ⟨a, ns, k, rfl, _⟩ := h; rfl
    · obtain ⟨a, ns, k, rfl, hs, hl, hk, q⟩ := h
      refine ⟨_, pss_cons (ps_set (i := 2) sc_rng.nd rfl (Or.inl rfl) (pe_op op_add (pe_op op_mulW pe_int (pv 1)) pe_int))
        (pss_cons (ps_if (pt_cmpR op_lt (pv 1) (pe_callB call_len_seq rfl e.b_len boot_len (pa_cons (pv 0) pa_nil)) (nomark _)) (pss_one (ps_set (i := 2) sc_rng.nd rfl (Or.inl rfl) (pe_ix ix_list (pv 0) (pv 1) (fun _ _ => rfl)))) pss_nil)
        (pss_one (ps_ret (pe_lst (pa_cons (pe_callB (call_max2 rfl) rfl e.b_max boot_max (pa_cons pe_int (pa_cons (pe_op op_sub (pe_callB call_abs rfl e.b_abs boot_abs (pa_cons (pv 2) pa_nil)) (pe_op op_pow pe_int pe_int)) pa_nil)))
          (pa_cons (pe_op op_add (pe_op op_mod (pe_op op_mulW (pe_callTy call_int1 rfl e.b_int boot_int (pa_cons (pe_op op_add (pe_op op_mod (pe_callTy call_int1 rfl e.b_int boot_int (pa_cons (pe_callB call_abs rfl e.b_abs boot_abs (pa_cons (pv 2) pa_nil)) pa_nil)) pe_int) pe_int) pa_nil))
            (pe_op op_pow (pe_op op_add (pe_op op_mulW pe_int (pv 1)) pe_int) pe_int)) pe_int) pe_int) pa_nil)))))), ?_⟩
      refine ⟨_, rfl, _, _, rfl, rfl, wide_mul (a := 32) (b := 32) (by decide) (by omega) (by decide) (by decide) (by decide), _, _, rfl, rfl, ?_⟩
      refine ⟨_, rfl, _, rfl, a, _, rfl, .inl hs, _, _, rfl, rfl, _, rfl, iteD (fun h0 => ?_) (fun h0 => ?_)⟩
      · have hk2 : k < ns.length := by
          have h1 : (k : Int) < ((ns.map V.int).length : Nat) := h0
          rw [List.length_map] at h1
          omega
        refine ⟨_, rfl, _, rfl, a, _, k, .int ns[k], rfl, rfl, hs, atI_nat (by rw [List.getElem?_map, List.getElem?_eq_getElem hk2]; rfl), ?_⟩
        refine ⟨_, rfl, _, rfl, _, _, rfl, rfl, (by show (0:Int) ≤ 18 ∧ (18:Int) ≤ 1000000 ∧ (10:Int).natAbs < 2 ^ 64; decide), _, _, rfl, rfl, _, _, rfl, _, rfl, _, rfl, .inl ⟨_, rfl, _, _, rfl, rfl, (by show (0:Int) < 2147483549; decide), _, _, rfl, rfl, .inl ⟨_, rfl, _, rfl, _, _, rfl, rfl, wide_mul (a := 32) (b := 32) (by decide) (by omega) (by decide) (by decide) (by decide), _, _, rfl, rfl, _, _, rfl, rfl, ?_, _, _, rfl, rfl, ?_, _, _, rfl, rfl, (by show (0:Int) < 2147483489; decide), _, _, rfl, rfl, (by show 2 ≤ sizeLine; decide), fun p hp => ?_⟩⟩⟩
        · show (0:Int) ≤ 3 ∧ (3:Int) ≤ 1000000 ∧ (2 * (k : Int) + 7).natAbs < 2 ^ 64
          omega
        · exact rng_mul hk
        · exact q p _ _ _ (rng_ok _ _) hp (same_upd hp) upd_same
      · refine ⟨_, rfl, _, rfl, _, _, rfl, rfl, (by show (0:Int) ≤ 18 ∧ (18:Int) ≤ 1000000 ∧ (10:Int).natAbs < 2 ^ 64; decide), _, _, rfl, rfl, _, _, rfl, _, rfl, _, rfl, .inl ⟨_, rfl, _, _, rfl, rfl, (by show (0:Int) < 2147483549; decide), _, _, rfl, rfl, .inl ⟨_, rfl, _, rfl, _, _, rfl, rfl, wide_mul (a := 32) (b := 32) (by decide) (by omega) (by decide) (by decide) (by decide), _, _, rfl, rfl, _, _, rfl, rfl, ?_, _, _, rfl, rfl, ?_, _, _, rfl, rfl, (by show (0:Int) < 2147483489; decide), _, _, rfl, rfl, (by show 2 ≤ sizeLine; decide), fun p hp => ?_⟩⟩⟩
        · show (0:Int) ≤ 3 ∧ (3:Int) ≤ 1000000 ∧ (2 * (k : Int) + 7).natAbs < 2 ^ 64
          omega
        · exact rng_mul hk
        · exact q p _ _ _ (rng_ok _ _) hp (same_upd hp) upd_same
  refine (rng_out F0).imp fun vs H Q E h => ?_
  obtain ⟨a, ns, k, rfl, hs, hl, hk, q⟩ := h
  refine ⟨a, ns, k, rfl, hs, hl, hk, fun r x y H' hxy hn hS e' => ⟨r, x, y, rfl, hxy, e', q r _ (fun c u z => ?_) upd_same⟩⟩
  rw [upd_ne (ne_of_none z hn)]
  exact hS c u z
end NG

set_option Elab.async false
set_option linter.all false
set_option maxRecDepth 100000
set_option maxHeartbeats 400000
/-! _law_names -/
namespace NG
open PySem PySem.Spec PyProof.Rows L2 He
/-! ### plain facts about names -/
theorem pigeon {α : Type} [DecidableEq α] : ∀ {l m : List α}, l.Nodup → m.length < l.length → ∃ x ∈ l, x ∉ m
  | [], m, _, h => by simp at h
  | x :: l, m, hn, h => by
    by_cases hx : x ∈ m
    · obtain ⟨hxl, hn2⟩ := List.nodup_cons.mp hn
      have hl : (m.erase x).length < l.length := by
        rw [List.length_erase_of_mem hx]
        have : 0 < m.length := List.length_pos_of_mem hx
        simp only [List.length_cons] at h
        omega
      obtain ⟨y, hy, hm⟩ := pigeon hn2 hl
      refine ⟨y, List.mem_cons_of_mem _ hy, fun z => hm ?_⟩
      have hyx : y ≠ x := fun e => hxl (e ▸ hy)
      exact (List.mem_erase_of_ne hyx).mpr z
    · exact ⟨x, List.mem_cons_self, hx⟩
def signC (c : Nat) : Bool := decide (c ∈ signsC)
/-- a name of n signs -/
def NameS (n : Nat) (s : Str) : Prop := 1 ≤ s.length ∧ s.length ≤ n ∧ (∃ c l, s.cps.toList = c :: l ∧ c ∈ lettersC) ∧ ∀ c ∈ s.cps.toList, c ∈ signsC
theorem NameS.key {n : Nat} {s : Str} (h : NameS n s) (hn : n ≤ 8) : keyS s = true := by
  obtain ⟨h1, h2, ⟨c, l, hc, hm⟩, h3⟩ := h
  unfold keyS
  rw [decide_eq_true (show 1 ≤ s.length ∧ s.length ≤ 8 by omega), hc]
  simp only [List.head?_cons, Bool.true_and, decide_eq_true hm, List.all_eq_true, decide_eq_true_eq]
  intro x hx
  exact h3 x (by rw [hc]; exact hx)
theorem len_toList (s : Str) : s.cps.toList.length = s.length := by simp [Str.length]
theorem cps_app (a b : Str) : (a ++ b).cps.toList = a.cps.toList ++ b.cps.toList := by
  rw [Str.cps_append, Array.toList_append]
theorem str_ext {a b : Str} (h : a.cps.toList = b.cps.toList) : a = b := by
  cases a
  cases b
  congr
  exact Array.toList_inj.mp h
theorem NameS.app {n m : Nat} {a b : Str} (h : NameS n a) (hb : b.length ≤ m) (hs : ∀ c ∈ b.cps.toList, c ∈ signsC) : NameS (n + m) (a ++ b) := by
  obtain ⟨h1, h2, ⟨c, l, hc, hm⟩, h3⟩ := h
  have e := len_toList (a ++ b)
  rw [cps_app, List.length_append, len_toList, len_toList] at e
  refine ⟨by omega, by omega, ⟨c, l ++ b.cps.toList, by rw [cps_app, hc]; rfl, hm⟩, fun x hx => ?_⟩
  rw [cps_app, List.mem_append] at hx
  exact hx.elim (h3 x) (hs x)
theorem app_inj {a b c : Str} (h : a ++ b = a ++ c) : b = c := by
  have := congrArg (fun s : Str => s.cps.toList) h
  simp only [cps_app] at this
  exact str_ext (List.append_cancel_left this)
def numS (i : Int) : Str := toString i
theorem num_signs : ∀ i ∈ iota 10 90, (numS i).length = 2 ∧ ∀ c ∈ (numS i).cps.toList, c ∈ signsC := by decide +kernel
theorem num_four : ∀ i ∈ ([10, 11, 12] : List Int), i ∈ iota 10 90 := by decide +kernel
theorem num_ne : numS 10 ≠ numS 11 ∧ numS 10 ≠ numS 12 ∧ numS 11 ≠ numS 12 := by decide +kernel
def spareS (s : Str) : List Str := s :: (iota 10 90).map fun i => s ++ numS i
theorem spare_name {n : Nat} {s : Str} (h : NameS n s) : ∀ x ∈ spareS s, NameS (n + 2) x := fun x hx => by
  rcases List.mem_cons.mp hx with rfl | hx
  · exact ⟨h.1, by have := h.2.1; omega, h.2.2⟩
  · obtain ⟨i, hi, rfl⟩ := List.mem_map.mp hx
    obtain ⟨h1, h2⟩ := num_signs i hi
    exact h.app (by omega) h2
/-- one of the names is free -/
theorem spare_free {s : Str} {m : List Str} (hm : m.length ≤ 3) : ∃ x ∈ spareS s, x ∉ m := by
  have hne : ∀ i ∈ iota 10 90, s ≠ s ++ numS i := fun i hi e => by
    have h2 := (num_signs i hi).1
    have e2 := len_toList (s ++ numS i)
    rw [cps_app, List.length_append, len_toList, len_toList, ← e] at e2
    omega
  have hn : (s :: ([10, 11, 12] : List Int).map fun i => s ++ numS i).Nodup := by
    obtain ⟨n1, n2, n3⟩ := num_ne
    refine List.nodup_cons.mpr ⟨fun hx => ?_, ?_⟩
    · obtain ⟨i, hi, e⟩ := List.mem_map.mp hx
      exact hne i (num_four i hi) e.symm
    · simp only [List.map_cons, List.map_nil, List.nodup_cons, List.mem_cons, List.not_mem_nil, or_false, not_or, List.nodup_nil, and_true, not_false_eq_true]
      exact ⟨⟨fun e => n1 (app_inj e), fun e => n2 (app_inj e)⟩, fun e => n3 (app_inj e)⟩
  obtain ⟨x, hx, hxm⟩ := pigeon (m := m) hn (by simp; omega)
  refine ⟨x, ?_, hxm⟩
  rcases List.mem_cons.mp hx with rfl | hx
  · exact List.mem_cons_self
  · obtain ⟨i, hi, rfl⟩ := List.mem_map.mp hx
    exact List.mem_cons_of_mem _ (List.mem_map.mpr ⟨i, num_four i hi, rfl⟩)
theorem name_signs : ∀ c ∈ ("abcdefghijkmnopq0123456789" : Str).cps.toList, c ∈ signsC := by decide +kernel
theorem letters_signs : ∀ c ∈ lettersC, c ∈ signsC := by decide +kernel
theorem iota_log : ∀ i ∈ iota 10 90, i.natAbs.log2 < 1920 := by decide +kernel
theorem joinL_nil : ∀ l : List (List Nat), TL.joinL [] l = l.flatten
  | [] => rfl
  | [p] => by simp [TL.joinL]
  | p :: q :: r => by
    have ih := joinL_nil (q :: r)
    show p ++ ([] ++ TL.joinL [] (q :: r)) = _
    rw [ih]
    simp
def oneC (s : Str) : Prop := ∃ c, s = ⟨#[c]⟩ ∧ c ∈ signsC
theorem join_cps (ys : List Str) : (Txt.join "" ys).cps.toList = (ys.map fun y => y.cps.toList).flatten := by
  have h := TL.tl_join "" ys
  rw [← TL.join_eq] at h
  exact h.trans (joinL_nil _)
theorem join_signs : ∀ {ys : List Str}, (∀ y ∈ ys, oneC y) → (Txt.join "" ys).length = ys.length ∧ ∀ c ∈ (Txt.join "" ys).cps.toList, c ∈ signsC := fun {ys} h => by
  have e := join_cps ys
  have hl : ∀ l : List Str, (∀ y ∈ l, oneC y) → ((l.map fun y => y.cps.toList).flatten).length = l.length ∧ ∀ c ∈ (l.map fun y => y.cps.toList).flatten, c ∈ signsC := by
    intro l
    induction l with
    | nil => intro _; exact ⟨rfl, fun c hc => by simp at hc⟩
    | cons y r ih =>
      intro hy
      obtain ⟨c, rfl, hc⟩ := hy y List.mem_cons_self
      obtain ⟨i1, i2⟩ := ih fun z hz => hy z (List.mem_cons_of_mem _ hz)
      refine ⟨by simp only [List.map_cons, List.flatten_cons, List.length_append, i1, List.length_cons]; simp; omega, fun x hx => ?_⟩
      simp only [List.map_cons, List.flatten_cons, List.mem_append] at hx
      rcases hx with hx | hx
      · have : x = c := by simpa using hx
        rw [this]; exact hc
      · exact i2 x hx
  obtain ⟨h1, h2⟩ := hl ys h
  exact ⟨by rw [← len_toList, e, h1], fun c hc => h2 c (by rw [← e]; exact hc)⟩
theorem sum_len : ∀ {ys : List Str}, (∀ y ∈ ys, oneC y) → (ys.map (·.length)).sum = ys.length
  | [], _ => rfl
  | y :: r, h => by
    obtain ⟨c, rfl, _⟩ := h y List.mem_cons_self
    rw [List.map_cons, List.sum_cons, sum_len fun z hz => h z (List.mem_cons_of_mem _ hz), List.length_cons]
    show 1 + r.length = r.length + 1
    omega
/-! ### the walk -/
variable {P : Program} {w : World} {K : Fg} {mg : Str → Option Value} {base : Heap}
/-- a text that keeps p, whichever -/
def isT (p : Str → Prop) : Rl Unit := fun _ v _ => ∃ s, v = .str s ∧ p s
theorem each_T {p : Str → Prop} {H : Hp} : ∀ {vs : List V} {us : List Unit}, Each (isT p) H vs us → ∃ ss : List Str, vs = ss.map V.str ∧ ss.length = us.length ∧ ∀ s ∈ ss, p s
  | _, _, .nil => ⟨[], rfl, rfl, fun s hs => by simp at hs⟩
  | _, _, .cons ⟨s, e, hp⟩ t => by
    obtain ⟨ss, e2, hl, ha⟩ := each_T t
    exact ⟨s :: ss, by rw [e, e2]; rfl, by simp [hl], fun x hx => (List.mem_cons.mp hx).elim (fun z => z ▸ hp) (ha x)⟩
/-- a list of texts -/
def Ks (H : Hp) (a : Addr) (ks : List Str) : Prop := H a = some (.lst (ks.map V.str))
theorem inV_strs (x : Str) (l : List Str) : inV (.str x) (l.map V.str) = decide (x ∈ l) := by
  unfold inV
  induction l with
  | nil => rfl
  | cons y r ih =>
    rw [List.map_cons, List.any_cons, ih]
    have e : eqV (.str y) (.str x) = decide (x = y) := by
      show (y == x) = _
      by_cases h : x = y
      · subst h; simp
      · rw [decide_eq_false h]
        exact beq_eq_false_iff_ne.mpr fun z => h z.symm
    rw [e]
    by_cases h1 : x = y <;> by_cases h2 : x ∈ r <;> simp [h1, h2]
theorem flat_strs' (l : List Str) : (l.map V.str).all flatV = true := by
  rw [List.all_map]
  exact List.all_eq_true.mpr fun _ _ => rfl
def spNames (K : Fg) : Sp := fun vs H Q _ => ∃ (r tk : Addr) (m : Nat), vs = [.ref r, .int m, .ref tk] ∧ H r = some (RngO r) ∧ SqL K H tk [] ∧ 1 ≤ m ∧ m ≤ 3 ∧
  ∀ (a : Addr) (ks : List Str) (H' : Hp), Same H H' → Ks H' a ks → ks.length = m → ks.Nodup → (∀ k ∈ ks, NameS 5 k) → Q (.ref a) H'
abbrev nNames : List Str := ["rng", "many", "taken", "found", "k", "size", "name", "spare", "turn", "one"]
theorem sc_names : FnScope nNames ["rng", "many", "taken"] (defScope f__law_names) := ⟨rfl, rfl, rfl, by decide +kernel, rfl, by decide +kernel, by decide +kernel⟩
theorem has_names (e : Ev K mg) : Has P w K mg base 3 "_law_names" ["rng", "many", "taken"] (spNames K) := by
  obtain ⟨fd, F⟩ := e.F_f__law_names
  refine ⟨_, fd, e.g__law_names, ?_, F.kp, F.bindsN fun _ _ _ _ _ _ us hl => match us, hl with | [_, _, _], _ => rfl⟩
  obtain ⟨f1, d1, m1, G1, k1, b1⟩ := has_draw (P := P) (w := w) (base := base) e
  refine F.okD sc_names (fun vs H Q E h => ?_) (fun cdv A outer s H vs Q E hr h => ?_)
  · obtain ⟨r, tk, m, rfl, _⟩ := h; rfl
  · obtain ⟨r, tk, m, rfl, hH, ht, hm1, hm3, q⟩ := h
    have hr1 := hr.mono (show 1 ≤ 2 by decide)
    refine ⟨_, pss_cons (ps_set (i := 3) sc_names.nd rfl (Or.inr rfl) (pe_lst pa_nil))
      (pss_cons (ps_for (g := gName 4) PassesOwn.never rfl (pi_range1 rfl e.b_range (pa_cons (pv 1) pa_nil)) (pg_name (i := 4) sc_names.nd rfl (Or.inl rfl))
        (pss_cons (ps_set (i := 5) sc_names.nd rfl (Or.inl rfl) (pe_call G1 hr1 rfl m1 k1 b1 .nil pass0 (pa_cons (pv 0) (pa_cons pe_int pa_nil))))
        (pss_cons (ps_set (i := 6) sc_names.nd rfl (Or.inr rfl) (pe_ix ix_str pe_str (pe_call G1 hr1 rfl m1 k1 b1 .nil pass0 (pa_cons (pv 0) (pa_cons pe_int pa_nil))) (fun _ _ => rfl)))
        (pss_cons (ps_set (i := 6) sc_names.nd rfl (Or.inr rfl) (pe_op op_add_str (pv 6) (pe_join pe_str (pe_lc (own := [("turn", 8)]) (g := gName 8) (tt := tYes) rfl sc_names.nd (pi_range1 rfl e.b_range (pa_cons (pv 5) pa_nil)) (blkOk_by (N := nNames) (sc := defScope f__law_names) (by decide +kernel))
            (fun _ _ _ _ _ => pg_name (i := 8) sc_names.nd rfl (Or.inl rfl)) (fun _ _ _ _ _ => pts_nil) (fun _ _ _ _ _ => pe_ix ix_str pe_str (pe_call G1 hr1 rfl m1 k1 b1 .nil pass0 (pa_cons (pv 0) (pa_cons pe_int pa_nil))) (fun _ _ => rfl))))))
        (pss_cons (ps_set (i := 7) sc_names.nd rfl (Or.inl rfl) (pe_op op_cat (pe_lst (pa_cons (pv 6) pa_nil)) (pe_lc (own := [("turn", 8)]) (g := gName 8) (tt := tYes) rfl sc_names.nd (pi_range2 rfl e.b_range (pa_cons pe_int (pa_cons pe_int pa_nil))) (blkOk_by (N := nNames) (sc := defScope f__law_names) (by decide +kernel))
            (fun _ _ _ _ _ => pg_name (i := 8) sc_names.nd rfl (Or.inl rfl)) (fun _ _ _ _ _ => pts_nil) (fun _ _ _ _ _ => pe_op op_add_str (pv 6) (pe_callTy call_str_int rfl e.b_str boot_str (pa_cons (pv 8) pa_nil))))))
        (pss_one (ps_expr (pe_bm PySem.F.plainAttrs_list PySem.F.slot_list_append PySem.F.type_list_append mt_append (pv 3) (pa_cons (pe_ix ix_list (pe_lc (own := [("one", 9)]) (g := gName 9) rfl sc_names.nd (pi_list (pv 7)) (blkOk_by (N := nNames) (sc := defScope f__law_names) (by decide +kernel))
            (fun _ _ _ _ _ => pg_name (i := 9) sc_names.nd rfl (Or.inl rfl)) (fun _ _ _ _ _ => pts_one (PW.pt (pw_and (pt_cmpR (show OpR _ (compareOp .NotIn) (rIn K true) from op_notIn_seq) (pv 9) (pv 3) rfl) (pw_and1 (pt_cmpR (show OpR _ (compareOp .NotIn) (rIn K true) from op_notIn_seq) (pv 9) (pv 2) rfl))))) (fun _ _ _ _ _ => pv 9)) pe_int (fun _ _ => rfl)) pa_nil)))))))))
      (pss_one (ps_ret (pv 3)))), ?_⟩
    refine ⟨Nat.zero_le _, fun a ha => ?_⟩
    refine ⟨_, rfl, _, rfl, by omega, by omega, ?_⟩
    have s0 : Same H (upd H a (.lst [])) := same_upd ha
    refine for_src (src_range (lo := 0) (n := (m : Int).toNat)) (fun i σ H2 => ∃ ks x4 x5 x6 x7 x8 x9, σ = [some (.ref r), some (.int m), some (.ref tk), some (.ref a), x4, x5, x6, x7, x8, x9] ∧ Same H H2 ∧ Ks H2 a ks ∧ ks.length = i ∧ ks.Nodup ∧ ∀ k ∈ ks, NameS 5 k)
      ⟨[], none, none, none, none, none, none, rfl, s0, upd_same, rfl, List.nodup_nil, fun k hk => by simp at hk⟩ (fun _ _ _ _ => trivial) ?_ ?_
    · rintro i b x σ H2 H3 hb hi ⟨ks, x4, x5, x6, x7, x8, x9, rfl, s2, hks, hlen, hnd, hns⟩ s3 rfl
      have s23 := s2.trans s3
      have hks3 : Ks H3 a ks := s3 _ _ hks
      rw [iota_length] at hi
      refine ⟨_, rfl, r, 3, rfl, by decide, by decide, s23 _ _ hH, fun d1 H4 hd1 s4 => ?_⟩
      refine ⟨_, rfl, r, 26, rfl, by decide, by decide, s4 _ _ (s23 _ _ hH), fun d2 H5 hd2 s5 => ?_⟩
      obtain ⟨c, hc, hcm⟩ := at_nat (xs := lettersC) (d := d2) (show d2 < 26 from hd2)
      refine ⟨_, _, c, rfl, rfl, (by show (26 : Nat) ≤ sizeLine; decide), hc, ?_⟩
      have s5' := (s23.trans s4).trans s5
      refine ⟨_, rfl, ⟨_, rfl⟩, _, rfl, _, rfl, by omega, by omega, fun D hD => ?_⟩
      refine lc_src (src_range (lo := 0) (n := (d1 : Int).toNat)) (isT oneC) (fun _ => ()) (fun _ => true) trivial hD (by rw [iota_length]; exact Nat.lt_of_lt_of_le (show (d1 : Int).toNat < 3 by omega) (by decide)) ?_ ?_
      · intro i' b' x' H6 acc Nx hb' s6 _ hx' hD6 hl6 _ _ kT
        refine ⟨rfl, tYes_of ?_⟩
        refine ⟨_, rfl, r, 26, rfl, by decide, by decide, s6 _ _ (s5' _ _ hH), fun d3 H7 hd3 s7 => ?_⟩
        obtain ⟨c3, hc3, hcm3⟩ := at_nat (xs := ("abcdefghijkmnopq0123456789" : Str).cps.toList) (d := d3) (show d3 < 26 from hd3)
        refine ⟨_, _, c3, rfl, rfl, (by show (26 : Nat) ≤ sizeLine; decide), hc3, ?_⟩
        refine ⟨acc, s7 _ _ hD6, hl6, ?_⟩
        exact kT rfl _ _ s7 fun _ _ => ⟨_, rfl, c3, rfl, name_signs c3 hcm3⟩
      intro H6 ys s6 hy he
      obtain ⟨ss, es, hls, hone⟩ := each_T (he H6 fun _ _ _ z => z)
      rw [filt, List.length_map, iota_length] at hls
      obtain ⟨j1, j2⟩ := join_signs hone
      refine ⟨"", D, ss, rfl, rfl, .inl (SqL.of (by rw [hy, es])), ?_, ?_⟩
      · show (ss.map (·.length)).sum + ss.length * 0 ≤ 16777216
        rw [sum_len hone]
        omega
      refine ⟨_, _, rfl, rfl, ?_, ?_⟩
      · show 1 + (Txt.join "" ss).length ≤ sizeLine
        rw [j1, sizeLine_eq]
        omega
      have hname : NameS 3 (⟨#[c]⟩ ++ Txt.join "" ss) := NameS.app (n := 1) (m := 2) ⟨Nat.le_refl _, Nat.le_refl _, ⟨c, [], rfl, hcm⟩, fun x hx => by
        have : x = c := by simpa using hx
        rw [this]
        exact letters_signs c hcm⟩ (by omega) j2
      show tSeq _ _ _ [some (.ref r), some (.int m), some (.ref tk), some (.ref a), some (.int b), some (.int d1), some (.str (⟨#[c]⟩ ++ Txt.join "" ss)), x7, x8, x9] H6
      generalize (⟨#[c]⟩ ++ Txt.join "" ss : Str) = nm at hname ⊢
      have s6' := s5'.trans s6
      refine ⟨_, rfl, (by show 1 ≤ sizeLine; decide), fun p1 hp1 => ?_⟩
      refine ⟨10, 100, rfl, by decide, fun D2 hD2 => ?_⟩
      have s7 : Same H6 (upd H6 p1 (.lst [.str nm])) := same_upd hp1
      refine lc_src (src_range (lo := 10) (n := 90)) isS (fun i => nm ++ numS i) (fun _ => true) trivial hD2 (by rw [iota_length]; decide) ?_ ?_
      · intro i' b' x' H7 acc Nx hb' s8 _ hx' hD7 hl7 _ _ kT
        obtain rfl : x' = .int b' := hx'
        refine ⟨rfl, tYes_of ?_⟩
        have hb2 := List.mem_of_getElem? hb'
        obtain ⟨n1, n2⟩ := num_signs b' hb2
        refine ⟨_, rfl, _, rfl, b', rfl, iota_log b' hb2, _, _, rfl, rfl, ?_, acc, hD7, hl7, ?_⟩
        · have := hname.2.1
          show nm.length + (numS b').length ≤ sizeLine
          rw [n1, sizeLine_eq]
          omega
        · exact kT rfl _ _ (Same.refl _) fun _ _ => rfl
      intro H7 ys2 s8 hy2 he2
      have ey2 := (he2 H7 fun _ _ _ z => z).eq_map V.str (fun _ _ z => z)
      rw [filt] at ey2
      have h1 : H7 p1 = some (.lst [.str nm]) := s8 _ _ upd_same
      refine ⟨p1, D2, _, ys2, rfl, rfl, h1, hy2, ?_, fun p2 hp2 => ?_⟩
      · rw [ey2, sizeLine_eq]
        simp only [List.length_map, List.length_cons, List.length_nil, iota_length]
        omega
      have e2 : [V.str nm] ++ ys2 = (spareS nm).map V.str := by
        rw [ey2]
        simp [spareS]
      rw [e2]
      have s9 : Same H (upd H7 p2 (.lst ((spareS nm).map V.str))) := ((s6'.trans s7).trans s8).trans (same_upd hp2)
      have hks9 : Ks (upd H7 p2 (.lst ((spareS nm).map V.str))) a ks := ((((s4.trans s5).trans s6).trans s7).trans s8).trans (same_upd hp2) _ _ hks3
      have hp9 : (upd H7 p2 (.lst ((spareS nm).map V.str))) p2 = some (.lst ((spareS nm).map V.str)) := upd_same
      generalize upd H7 p2 (.lst ((spareS nm).map V.str)) = H9 at s9 hks9 hp9 ⊢
      refine ⟨_, rfl, .inl ⟨rfl, _, SqL.of hks9⟩, _, rfl, p2, rfl, ⟨_, SqL.of hp9⟩, fun D3 hD3 => ?_⟩
      have e9 : Each isS H9 ((spareS nm).map V.str) (spareS nm) := Each.map V.str fun _ _ => rfl
      refine lc_src (src_list mn_isS e9) isS (fun x => x) (fun x => decide (x ∉ ks)) ⟨Same.refl _, SqL.of hp9⟩ hD3 (by simp [spareS, iota_length]; decide) ?_ ?_
      · intro i' b' x' H10 acc Nx hb' s10 _ hx' hD10 hl10 _ kF kT
        obtain rfl : x' = .str b' := hx'
        refine ⟨rfl, ?_⟩
        refine ⟨_, rfl, _, rfl, a, _, rfl, .inl (SqL.of (s10 _ _ hks9)), rfl, flat_strs' ks, _, rfl, ?_⟩
        rw [inV_strs]
        by_cases hin : b' ∈ ks
        · rw [decide_eq_true hin]
          refine (show if false = true then _ else _ from iteF ?_)
          refine (show if false = true then _ else _ from iteF ?_)
          exact kF (by simp [hin]) _ (Same.refl _)
        · rw [decide_eq_false hin]
          refine (show if true = true then _ else _ from iteT ?_)
          refine ⟨_, rfl, _, rfl, tk, _, rfl, .inl ((s9.trans s10).seq ht), rfl, rfl, _, rfl, ?_⟩
          refine (show if true = true then _ else _ from iteT ?_)
          exact ⟨_, rfl, acc, hD10, hl10, kT (by simp [hin]) _ _ (Same.refl _) fun _ _ => rfl⟩
      intro H10 ys3 s10 hy3 he3
      have ey3 := (he3 H10 fun _ _ _ z => z).eq_map V.str (fun _ _ z => z)
      rw [List.map_id'] at ey3
      obtain ⟨nw, hnw, hnk⟩ := spare_free (s := nm) (m := ks) (by omega)
      have hmem : nw ∈ (spareS nm).filter fun x => decide (x ∉ ks) := List.mem_filter.mpr ⟨hnw, by simp [hnk]⟩
      obtain ⟨v0, rest, ev⟩ := List.exists_cons_of_ne_nil (List.ne_nil_of_mem hmem)
      have hv0 := List.mem_filter.mp (show v0 ∈ (spareS nm).filter fun x => decide (x ∉ ks) by rw [ev]; exact List.mem_cons_self)
      have hv1 : v0 ∉ ks := by simpa using hv0.2
      refine ⟨D3, ys3, 0, .str v0, rfl, rfl, SqL.of hy3, by rw [ey3, ev]; exact atI_nat (j := 0) rfl, ?_⟩
      have hks10 : H10 a = some (.lst (ks.map V.str)) := s10 _ _ hks9
      refine ⟨a, _, .str v0, rfl, rfl, hks10, by rw [List.length_map, sizeLine_eq]; omega, ?_⟩
      refine ⟨ks ++ [v0], _, _, _, _, _, _, rfl, Same.butN (s9.trans s10) ha But.upd, ?_, ?_, ?_, ?_⟩
      · show upd H10 a _ a = _
        rw [upd_same, List.map_append]
        rfl
      · rw [List.length_append, hlen]; rfl
      · exact List.nodup_append.mpr ⟨hnd, by simp, fun x hx y hy e => hv1 (by simp at hy; rw [← hy, ← e]; exact hx)⟩
      · intro k hk
        rcases List.mem_append.mp hk with hk | hk
        · exact hns k hk
        · obtain rfl : k = v0 := by simpa using hk
          exact spare_name hname k hv0.1
    · rintro σ H2 ⟨ks, x4, x5, x6, x7, x8, x9, rfl, s2, hks, hlen, hnd, hns⟩
      exact ⟨_, rfl, q a ks H2 s2 hks (by rw [hlen, iota_length]; rfl) hnd hns⟩
end NG

set_option Elab.async false
set_option linter.all false
set_option maxRecDepth 100000
set_option maxHeartbeats 400000
/-! rows, locks -/
namespace NG
open PySem PySem.Spec PyProof.Rows L2 He
variable {P : Program} {w : World} {K : Fg} {mg : Str → Option Value} {base : Heap}
/-- a row: keys and ints -/
abbrev Row := List (Str × Int)
def rowKV (r : Row) : List (Key × V) := r.map fun p => (Sum.inr p.1, .int p.2)
def getR (r : Row) (k : Str) : Option Int := (r.find? fun p => decide (p.1 = k)).map (·.2)
def putR (r : Row) (k : Str) (n : Int) : Row := if (r.any fun p => decide (p.1 = k)) = true then r.map (fun p => if p.1 = k then (p.1, n) else p) else r ++ [(k, n)]
theorem inr_iff (a b : Str) : ((Sum.inr a : Key) = Sum.inr b) ↔ a = b := ⟨fun h => Sum.inr.inj h, fun h => by rw [h]⟩
theorem valV_row (r : Row) (k : Str) : valV (rowKV r) (Sum.inr k) = (getR r k).map V.int := by
  unfold valV getR rowKV
  rw [List.find?_map]
  have e : ((fun kv : Key × V => decide (kv.1 = (Sum.inr k : Key))) ∘ fun p : Str × Int => ((Sum.inr p.1 : Key), V.int p.2)) = fun p => decide (p.1 = k) := funext fun p => by
    simp only [Function.comp, inr_iff]
  rw [e, Option.map_map, Option.map_map]
  rfl
theorem putK_row (r : Row) (k : Str) (n : Int) : putK (rowKV r) (Sum.inr k) (.int n) = rowKV (putR r k n) := by
  unfold putK putR rowKV
  rw [List.any_map]
  have e : ((fun kv : Key × V => decide (kv.1 = (Sum.inr k : Key))) ∘ fun p : Str × Int => ((Sum.inr p.1 : Key), V.int p.2)) = fun p => decide (p.1 = k) := funext fun p => by
    simp only [Function.comp, inr_iff]
  rw [e]
  by_cases h : (r.any fun p => decide (p.1 = k)) = true
  · rw [if_pos h, if_pos h, List.map_map, List.map_map]
    refine List.map_congr_left fun p _ => ?_
    simp only [Function.comp, inr_iff]
    by_cases hp : p.1 = k
    · rw [if_pos hp, if_pos hp]
    · rw [if_neg hp, if_neg hp]
  · rw [if_neg h, if_neg h, List.map_append]
    rfl
theorem rowKV_length (r : Row) : (rowKV r).length = r.length := by simp [rowKV]
theorem getR_none {r : Row} {k : Str} (h : k ∉ r.map (·.1)) : getR r k = none := by
  unfold getR
  rw [Option.map_eq_none_iff, List.find?_eq_none]
  intro p hp
  simp only [decide_eq_true_eq]
  exact fun e => h (List.mem_map.mpr ⟨p, hp, e⟩)
theorem putR_new {r : Row} {k : Str} {n : Int} (h : k ∉ r.map (·.1)) : putR r k n = r ++ [(k, n)] := by
  unfold putR
  rw [if_neg]
  rw [List.any_eq_true]
  rintro ⟨p, hp, e⟩
  exact h (List.mem_map.mpr ⟨p, hp, of_decide_eq_true e⟩)
theorem putR_keys {r : Row} {k : Str} {n : Int} : (putR r k n).map (·.1) = if k ∈ r.map (·.1) then r.map (·.1) else r.map (·.1) ++ [k] := by
  by_cases h : k ∈ r.map (·.1)
  · rw [if_pos h]
    unfold putR
    rw [if_pos, List.map_map]
    · refine List.map_congr_left fun p _ => ?_
      simp only [Function.comp]
      by_cases hp : p.1 = k
      · rw [if_pos hp]
      · rw [if_neg hp]
    · obtain ⟨p, hp, e⟩ := List.mem_map.mp h
      exact List.any_eq_true.mpr ⟨p, hp, decide_eq_true e⟩
  · rw [if_neg h, putR_new h, List.map_append]
    rfl
theorem putR_get (r : Row) (k j : Str) (n : Int) : getR (putR r k n) j = if j = k then some n else getR r j := by
  have h := valV_put (rowKV r) (Sum.inr k : Key) (Sum.inr j) (.int n)
  rw [putK_row, valV_row, valV_row] at h
  by_cases hj : j = k
  · rw [if_pos ((inr_iff _ _).mpr hj)] at h
    rw [if_pos hj]
    cases e : getR (putR r k n) j with
    | none => rw [e] at h; exact nomatch h
    | some m => rw [e] at h; cases h; rfl
  · rw [if_neg fun z => hj ((inr_iff _ _).mp z)] at h
    rw [if_neg hj]
    cases e : getR (putR r k n) j with
    | none =>
      cases e2 : getR r j with
      | none => rfl
      | some m => rw [e, e2] at h; exact nomatch h
    | some m =>
      cases e2 : getR r j with
      | none => rw [e, e2] at h; exact nomatch h
      | some m2 => rw [e, e2] at h; cases h; rfl
def atR (r : Row) (k : Str) : Int := (getR r k).getD 0
theorem atR_put (r : Row) (k j : Str) (n : Int) : atR (putR r k n) j = if j = k then n else atR r j := by
  unfold atR
  rw [putR_get]
  split <;> rfl
/-- a dict that holds the row -/
def RowR : Rl Row := fun H v r => ∃ d, v = .ref d ∧ H d = some (.dK (rowKV r))
theorem mn_Row : Mn RowR := fun _ _ _ _ s ⟨d, e, h⟩ => ⟨d, e, s _ _ h⟩
/-- the same, perhaps locked -/
def RowL : Rl Row := fun H v r => ∃ d, v = .ref d ∧ Rd H d (.dK (rowKV r))
theorem mn_RowL : Mn RowL := fun _ _ _ _ s ⟨d, e, h⟩ => ⟨d, e, h.imp (s _ _) fun ⟨o, h⟩ => ⟨o, s _ _ h⟩⟩
theorem RowR.l {H : Hp} {v : V} {r : Row} (h : RowR H v r) : RowL H v r := let ⟨d, e, h⟩ := h; ⟨d, e, .inl h⟩
/-- behind a lock -/
theorem unlock_same {d : Addr} {od : Obj} {u : HO} {H H' : Hp} (h : H d = some u) (s : Same (upd H d (.frz od u)) H') : Same H (upd H' d u) := fun b o e => by
  by_cases hb : b = d
  · subst hb
    rw [h] at e
    cases e
    exact upd_same
  · rw [upd_ne hb]
    exact s _ _ (by rw [upd_ne hb]; exact e)
theorem lock_rd {d : Addr} {od : Obj} {kvs : List (Key × V)} {H : Hp} (h : H d = some (.dK kvs)) : ∀ b ls, Rd H b (.dK ls) → Rd (upd H d (.frz od (.dK kvs))) b (.dK ls) := fun b ls e => by
  by_cases hb : b = d
  · subst hb
    rcases e with e | ⟨o, e⟩
    · rw [h] at e
      cases e
      exact .inr ⟨od, upd_same⟩
    · rw [h] at e
      exact nomatch e
  · rcases e with e | ⟨o, e⟩
    · exact .inl (by rw [upd_ne hb]; exact e)
    · exact .inr ⟨o, by rw [upd_ne hb]; exact e⟩
theorem lock_but {d : Addr} {od : Obj} {u : HO} {H : Hp} : But d H (upd H d (.frz od u)) := But.upd
theorem RowL.lock {d : Addr} {od : Obj} {kvs : List (Key × V)} {H : Hp} {v : V} {r : Row} (l : RowL H v r) (h : H d = some (.dK kvs)) : RowL (upd H d (.frz od (.dK kvs))) v r :=
  let ⟨c, e, l⟩ := l; ⟨c, e, lock_rd h _ _ l⟩
theorem same_at {d : Addr} {u : HO} {H H' : Hp} (s : Same H H') (h : H d = some u) : H' d = some u := s _ _ h
theorem RowL.get {H : Hp} {a : Addr} {r : Row} (h : RowL H (.ref a) r) (k : Str) : DGet H a (.str k) ((getR r k).map V.int) := by
  obtain ⟨d, e, h⟩ := h
  cases e
  exact .inl ⟨_, Sum.inr k, h, rfl, (valV_row r k).symm⟩
theorem RowL.isD {H : Hp} {a : Addr} {r : Row} (h : RowL H (.ref a) r) : IsD H a := by
  obtain ⟨d, e, h⟩ := h
  cases e
  exact .inl ⟨_, h⟩
theorem getD_int (o : Option Int) : (o.map V.int).getD (.int 0) = .int (o.getD 0) := by cases o <;> rfl
/-- the pairs of a row -/
theorem each_vals2 {H : Hp} (r : Row) : Each isI H ((rowKV r).map (·.2)) (r.map (·.2)) := by
  unfold rowKV
  rw [List.map_map]
  have : r.map ((fun kv : Key × V => kv.2) ∘ fun p : Str × Int => ((Sum.inr p.1 : Key), V.int p.2)) = (r.map (·.2)).map V.int := by rw [List.map_map]; rfl
  rw [this]
  exact Each.map V.int fun _ _ => rfl
def isP : Rl (Str × Int) := fun H v p => ∃ T, v = .ref T ∧ H T = some (.tup [.str p.1, .int p.2])
theorem src_row {d : Addr} {o : Obj} {r : Row} : Src (Iti d o (rowKV r)) (fun H => H d = some (.frz o (.dK (rowKV r)))) isP r where
  keep := fun _ _ s h => s _ _ h
  go := fun i H h hi => ⟨h, by rw [rowKV_length]; exact hi⟩
  stop := fun H h => ⟨h, by rw [rowKV_length]; exact Nat.le_refl _⟩
  yld := fun i H x H' h hi y => by
    obtain ⟨T, k, v, ek, rfl, nT, rfl⟩ := y
    unfold rowKV at ek
    rw [List.getElem?_map, List.getElem?_eq_getElem hi] at ek
    cases ek
    exact ⟨r[i], List.getElem?_eq_getElem hi, ⟨T, rfl, upd_same⟩, same_upd nT⟩
end NG

set_option Elab.async false
set_option linter.all false
set_option maxRecDepth 100000
set_option maxHeartbeats 400000
/-! _law_number, _law_row_of, _law_table, _law_added, _law_shown -/
namespace NG
open PySem PySem.Spec PyProof.Rows L2 He
variable {P : Program} {w : World} {K : Fg} {mg : Str → Option Value} {base : Heap}
/-! ### _law_number -/
theorem sc_number : FnScope ["rng"] ["rng"] (defScope f__law_number) := ⟨rfl, rfl, rfl, by decide +kernel, rfl, by decide +kernel, by decide +kernel⟩
def bigN : Nat := 100000000000000000000
def spNumber : Sp := fun vs H Q _ => ∃ (r : Addr), vs = [.ref r] ∧ H r = some (RngO r) ∧ ∀ (n : Int) (H' : Hp), n.natAbs ≤ bigN → Same H H' → Q (.int n) H'
theorem has_number (e : Ev K mg) : Has P w K mg base 3 "_law_number" ["rng"] spNumber := by
  obtain ⟨fd, F⟩ := e.F_f__law_number
  refine ⟨_, fd, e.g__law_number, ?_, F.kp, F.bindsN fun _ _ _ _ _ _ us hl => match us, hl with | [_], _ => rfl⟩
  obtain ⟨f2, d2, m2, G2, k2, b2⟩ := has_choice (P := P) (w := w) (base := base) e
  refine F.okD sc_number (fun vs H Q E h => ?_) (fun cdv A outer s H vs Q E hr h => ?_)
  · obtain ⟨r, rfl, _⟩ := h; rfl
  · obtain ⟨r, rfl, hH, q⟩ := h
    refine ⟨_, pss_one (ps_ret (pe_call G2 hr rfl m2 k2 b2 .nil pass0 (pa_cons (pv 0) (pa_cons (pe_lst (pa_cons pe_int (pa_cons pe_int (pa_cons (pe_un un_neg pe_int) (pa_cons pe_int (pa_cons pe_int (pa_cons (pe_un un_neg pe_int) (pa_cons (pe_op op_pow pe_int pe_int) (pa_cons (pe_un un_neg (pe_op op_pow pe_int pe_int)) pa_nil))))))))) pa_nil)))), ?_⟩
    refine ⟨_, rfl, _, rfl, _, rfl, _, _, rfl, rfl, (by show (0:Int) ≤ 20 ∧ (20:Int) ≤ 1000000 ∧ (10:Int).natAbs < 2 ^ 64; decide), _, _, rfl, rfl, (by show (0:Int) ≤ 20 ∧ (20:Int) ≤ 1000000 ∧ (10:Int).natAbs < 2 ^ 64; decide), _, rfl, (by show 8 ≤ sizeLine; decide), fun p hp => ?_⟩
    refine ⟨r, p, _, rfl, same_upd hp _ _ hH, SqL.of upd_same, ⟨(by decide), (by decide)⟩, fun v H' hv s' => ?_⟩
    have hs := (same_upd hp).trans s'
    have hb : ∃ n : Int, v = .int n ∧ n.natAbs ≤ bigN := by
      simp only [List.mem_cons, List.not_mem_nil, or_false] at hv
      rcases hv with rfl | rfl | rfl | rfl | rfl | rfl | rfl | rfl <;> exact ⟨_, rfl, by decide⟩
    obtain ⟨n, rfl, hn⟩ := hb
    exact q n H' hn hs
/-! ### _law_row_of -/
def GoodRow (m : Nat) (ks : List Str) (r : Row) : Prop := (r.map (·.1)).Nodup ∧ (∀ k ∈ r.map (·.1), k ∈ ks) ∧ ∀ p ∈ r, p.2.natAbs ≤ m
theorem GoodRow.nil {m : Nat} {ks : List Str} : GoodRow m ks [] := ⟨List.nodup_nil, fun k hk => by simp at hk, fun p hp => by simp at hp⟩
theorem GoodRow.snoc {m : Nat} {ks : List Str} {r : Row} {k : Str} {n : Int} (h : GoodRow m ks r) (hk : k ∈ ks) (hn : n.natAbs ≤ m) (hf : k ∉ r.map (·.1)) : GoodRow m ks (r ++ [(k, n)]) := by
  obtain ⟨h1, h2, h3⟩ := h
  refine ⟨?_, fun x hx => ?_, fun p hp => ?_⟩
  · rw [List.map_append]
    exact List.nodup_append.mpr ⟨h1, by simp, fun x hx y hy e => hf (by simp at hy; rw [← hy, ← e]; exact hx)⟩
  · rw [List.map_append, List.mem_append] at hx
    rcases hx with hx | hx
    · exact h2 x hx
    · obtain rfl : x = k := by simpa using hx
      exact hk
  · rcases List.mem_append.mp hp with hp | hp
    · exact h3 p hp
    · obtain rfl : p = (k, n) := by simpa using hp
      exact hn
theorem GoodRow.len {m : Nat} {ks : List Str} {r : Row} (h : GoodRow m ks r) : r.length ≤ ks.length := by
  by_cases hl : r.length ≤ ks.length
  · exact hl
  · obtain ⟨x, hx, hn⟩ := pigeon (l := r.map (·.1)) (m := ks) h.1 (by rw [List.length_map]; omega)
    exact absurd (h.2.1 x hx) hn
theorem sc_row_of : FnScope ["rng", "keys", "found", "key", "number"] ["rng", "keys"] (defScope f__law_row_of) := ⟨rfl, rfl, rfl, by decide +kernel, rfl, by decide +kernel, by decide +kernel⟩
def spRowOf (K : Fg) : Sp := fun vs H Q _ => ∃ (r a : Addr) (ks : List Str), vs = [.ref r, .ref a] ∧ H r = some (RngO r) ∧ SqL K H a (ks.map V.str) ∧ ks.Nodup ∧ ks.length ≤ 3 ∧
  ∀ (v : V) (row : Row) (H' : Hp), Same H H' → RowR H' v row → GoodRow 3 ks row → Q v H'
theorem scal_int (i j : Int) : scal (.int i) (.int j) = true := rfl
theorem has_row_of (e : Ev K mg) : Has P w K mg base 3 "_law_row_of" ["rng", "keys"] (spRowOf K) := by
  obtain ⟨fd, F⟩ := e.F_f__law_row_of
  refine ⟨_, fd, e.g__law_row_of, ?_, F.kp, F.bindsN fun _ _ _ _ _ _ us hl => match us, hl with | [_, _], _ => rfl⟩
  obtain ⟨f2, d2, m2, G2, k2, b2⟩ := has_choice (P := P) (w := w) (base := base) e
  refine F.okD sc_row_of (fun vs H Q E h => ?_) (fun cdv A outer s H vs Q E hr h => ?_)
  · obtain ⟨r, a, ks, rfl, _⟩ := h; rfl
  · obtain ⟨r, a, ks, rfl, hH, hs, hnd, hl, q⟩ := h
    refine ⟨_, pss_cons (ps_set (i := 2) sc_row_of.nd rfl (Or.inl rfl) pe_dnewK)
      (pss_cons (ps_for (g := gName 3) PassesOwn.never rfl (pi_list (pv 1)) (pg_name (i := 3) sc_row_of.nd rfl (Or.inl rfl))
        (pss_cons (ps_set (i := 4) sc_row_of.nd rfl (Or.inl rfl) (pe_call G2 hr rfl m2 k2 b2 .nil pass0 (pa_cons (pv 0) (pa_cons (pe_lst (pa_cons pe_int (pa_cons pe_int (pa_cons pe_int (pa_cons pe_int (pa_cons pe_int (pa_cons (pe_un un_neg pe_int) (pa_cons pe_int (pa_cons (pe_un un_neg pe_int) pa_nil))))))))) pa_nil))))
        (pss_one (ps_if (pt_cmpR op_ne (pv 4) pe_int (nomark _)) (pss_one (ps_dput (hu_of hr) (pv 2) (pv 3) (pv 4) rfl)) pss_nil))))
      (pss_one (ps_ret (pv 2)))), ?_⟩
    intro d hd
    refine ⟨_, rfl, a, rfl, ⟨_, (same_upd hd).seq hs⟩, ?_⟩
    refine for_src (src_list (bs := ks) (R := isS) mn_isS (Each.map V.str fun _ _ => rfl)) (fun i σ H2 => ∃ row x3 x4, σ = [some (.ref r), some (.ref a), some (.ref d), x3, x4] ∧ Same H H2 ∧ H2 d = some (.dK (rowKV row)) ∧ GoodRow 3 ks row ∧ ∀ k ∈ row.map (·.1), k ∈ ks.take i)
      ⟨[], none, none, rfl, same_upd hd, upd_same, .nil, fun k hk => by simp at hk⟩ (fun i σ H2 ⟨row, x3, x4, e1, s2, _⟩ => ⟨s2, s2.seq hs⟩) ?_ ?_
    · rintro i b x σ H2 H3 hb hi ⟨row, x3, x4, rfl, s2, hd2, hg, hks⟩ s3 rfl
      have s23 := s2.trans s3
      have hbk : b ∈ ks := List.mem_of_getElem? hb
      have hbn : b ∉ row.map (·.1) := fun z => by
        obtain ⟨j, hj, e2⟩ := List.mem_iff_getElem.mp (hks b z)
        rw [List.getElem_take] at e2
        rw [List.length_take] at hj
        obtain ⟨hi', e1⟩ := List.getElem?_eq_some_iff.mp hb
        exact List.pairwise_iff_getElem.mp hnd j i (by omega) hi' (by omega) (e2.trans e1.symm)
      refine ⟨_, rfl, _, rfl, _, rfl, (by show 8 ≤ sizeLine; decide), fun p hp => ?_⟩
      refine ⟨r, p, _, rfl, same_upd hp _ _ (s23 _ _ hH), SqL.of upd_same, ⟨(by decide), (by decide)⟩, fun v H4 hv s4 => ?_⟩
      have s34 := (same_upd hp).trans s4
      obtain ⟨n, rfl, hn⟩ : ∃ n : Int, v = .int n ∧ n.natAbs ≤ 3 := by
        simp only [List.mem_cons, List.not_mem_nil, or_false] at hv
        rcases hv with rfl | rfl | rfl | rfl | rfl | rfl | rfl | rfl <;> exact ⟨_, rfl, by decide⟩
      have hd4 := (s3.trans s34) _ _ hd2
      have s24 := s23.trans s34
      refine ⟨_, rfl, rfl, _, rfl, ?_⟩
      by_cases h0 : V.int n = V.int 0
      · rw [decide_eq_true h0]
        refine iteF ?_
        exact ⟨row, _, _, rfl, s24, hd4, hg, fun k hk => by rw [List.take_add_one]; exact List.mem_append_left _ (hks k hk)⟩
      · rw [decide_eq_false h0]
        refine iteT ?_
        refine ⟨_, rfl, _, rfl, _, rfl, d, _, rfl, DPut.k (k := Sum.inr b) hd4 ?_, ?_⟩
        · rw [rowKV_length]
          have := hg.len
          exact small1000 (by omega)
        · refine ⟨row ++ [(b, n)], _, _, rfl, Same.butN s24 hd But.upd, ?_, hg.snoc hbk hn hbn, fun k hk => ?_⟩
          · rw [upd_same, putK_row, putR_new hbn]
          · rw [List.take_add_one, hb]
            rw [List.map_append, List.mem_append] at hk
            rcases hk with hk | hk
            · exact List.mem_append_left _ (hks k hk)
            · obtain rfl : k = b := by simpa using hk
              exact List.mem_append_right _ (by simp)
    · rintro σ H2 ⟨row, x3, x4, rfl, s2, hd2, hg, hks⟩
      exact ⟨_, rfl, q _ row H2 s2 ⟨d, rfl, hd2⟩ hg⟩
end NG

set_option Elab.async false
set_option linter.all false
set_option maxRecDepth 100000
set_option maxHeartbeats 400000
/-! comprehensions whose items are free; _law_table, _law_added, _law_shown -/
namespace NG
open PySem PySem.Spec PyProof.Rows L2 He
/-- a comprehension over a source: what it makes is told by Pv -/
theorem lc_gen {α β : Type} {J : It} {Hs : Hp → Prop} {R : Rl α} {bs : List α} {g : TG} {tt : TT} {te : TE} {ws : List Nat} {σ : L2.St} {H1 : Hp} {D : Addr} {Qd : Hp → Prop}
    (S : Src J Hs R bs) (R' : Rl β) (Pv : Nat → List β → Prop) (p0 : Pv 0 []) (h1 : Hs H1) (nD : H1 D = none) (hz : bs.length < sizeLine)
    (turn : ∀ (i : Nat) (b : α) (x : V) (H : Hp) (acc : List V) (cs : List β) (Nx : Hp → Prop), bs[i]? = some b → Pv i cs → Same H1 H → Hs H → R H x b → H D = some (.lst acc) → acc.length < sizeLine → H1 D = none →
      (Pv (i + 1) cs → ∀ H3, Same H H3 → Nx H3) → (∀ c, Pv (i + 1) (cs ++ [c]) → ∀ y H4, Same H H4 → (∀ H5, But D H4 H5 → R' H5 y c) → Nx (upd H4 D (.lst (acc ++ [y])))) →
      g x (wipe σ ws) H fun σ2 H2 => wipe σ2 ws = wipe σ ws ∧ tt σ2 H2 fun c H3 => if c = true then te σ2 H3 fun y H4 => ∃ acc', H4 D = some (.lst acc') ∧ acc'.length < sizeLine ∧ Nx (upd H4 D (.lst (acc' ++ [y]))) else Nx H3)
    (done : ∀ H ys cs, Same H1 H → H D = some (.lst ys) → Pv bs.length cs → (∀ H5, But D H H5 → Each R' H5 ys cs) → Qd H) :
    ∃ W : Nat → Nat → Hp → Prop, (∃ m, W 0 m (upd H1 D (.lst []))) ∧ ∀ i m H, W i m H →
      (J.stop i H ∧ Qd H) ∨ (J.go i H ∧ ∃ Nx : Hp → Prop, (∀ H', Nx H' → ∃ m', m' < m ∧ W (i + 1) m' H') ∧ ∀ x H', J.yld i H x H' → g x (wipe σ ws) H' fun σ2 H2 => wipe σ2 ws = wipe σ ws ∧ tt σ2 H2 fun b H3 =>
        if b = true then te σ2 H3 fun y H4 => ∃ acc, H4 D = some (.lst acc) ∧ acc.length < sizeLine ∧ Nx (upd H4 D (.lst (acc ++ [y]))) else Nx H3) := by
  have hd : ∀ H, Same H1 H → Hs H := fun H s => S.keep _ _ s h1
  refine ⟨fun i m H => m = bs.length - i ∧ i ≤ bs.length ∧ Same H1 H ∧ ∃ ys cs, H D = some (.lst ys) ∧ ys.length ≤ i ∧ Pv i cs ∧ ∀ H5, But D H H5 → Each R' H5 ys cs,
    ⟨bs.length, by simp, Nat.zero_le _, same_upd nD, [], [], upd_same, Nat.zero_le _, p0, fun _ _ => .nil⟩, ?_⟩
  rintro i m H ⟨rfl, hi, s, ys, cs, hy, hl, hp, he⟩
  by_cases hlt : i < bs.length
  · refine .inr ⟨S.go i H (hd H s) hlt, _, fun H' z => ⟨bs.length - (i + 1), by omega, z⟩, fun x H' yl => ?_⟩
    obtain ⟨b, hb, r, s'⟩ := S.yld i H x H' (hd H s) hlt yl
    have hyD : H' D = some (.lst ys) := s' _ _ hy
    refine turn i b x H' ys cs _ hb hp (s.trans s') (S.keep _ _ s' (hd H s)) r hyD (by omega) nD (fun hp2 H3 s3 => ?_) (fun c hp2 y H4 s4 r' => ?_)
    · exact ⟨rfl, hlt, s.trans (s'.trans s3), ys, cs, s3 _ _ hyD, by omega, hp2, fun H5 b5 => he H5 ((But.of_same (s'.trans s3)).trans b5)⟩
    · refine ⟨rfl, hlt, ?_, ys ++ [y], cs ++ [c], upd_same, by rw [List.length_append]; simp; omega, hp2, fun H5 b5 => ?_⟩
      · exact Same.butN (s.trans (s'.trans s4)) nD But.upd
      · refine Each.append ?_ (.cons ?_ .nil)
        · exact he H5 (((But.of_same (s'.trans s4)).trans But.upd).trans b5)
        · exact r' H5 (But.upd.trans b5)
  · have ei : i = bs.length := by omega
    subst ei
    exact .inl ⟨S.stop H (hd H s), done H ys cs s hy hp he⟩
variable {P : Program} {w : World} {K : Fg} {mg : Str → Option Value} {base : Heap}
theorem mergeR : ∀ (more r : Row), (r.map (·.1) ++ more.map (·.1)).Nodup → mergeK (rowKV r) (rowKV more) = rowKV (r ++ more)
  | [], r, _ => by simp [mergeK, rowKV]
  | p :: l, r, h => by
    have hp : p.1 ∉ r.map (·.1) := fun z => by
      have := (List.nodup_append.mp h).2.2
      exact this _ z _ (by simp) rfl
    have ih := mergeR l (r ++ [p]) (by simpa using h)
    show mergeK (putK (rowKV r) (Sum.inr p.1) (.int p.2)) (rowKV l) = _
    rw [putK_row, putR_new hp, ih]
    simp
theorem mergeR0 {r : Row} (h : (r.map (·.1)).Nodup) : mergeK [] (rowKV r) = rowKV r := mergeR r [] (by simpa using h)
theorem isP_pairs {K : Fg} {H : Hp} : ∀ {ys : List V} {r : Row}, Each isP H ys r → ∃ ps : List Addr, ys = ps.map V.ref ∧ Paired (fun p kv => SqT K H p [kV kv.1, kv.2]) ps (rowKV r)
  | _, _, .nil => ⟨[], rfl, .nil⟩
  | _, _, .cons ⟨T, e, hT⟩ t => by
    obtain ⟨ps, e2, hp⟩ := isP_pairs t
    exact ⟨T :: ps, by rw [e, e2]; rfl, .cons (SqT.of hT) hp⟩
/-! ### _law_table -/
theorem sc_table : FnScope ["rng", "keys", "key"] ["rng", "keys"] (defScope f__law_table) := ⟨rfl, rfl, rfl, by decide +kernel, rfl, by decide +kernel, by decide +kernel⟩
def spLTable (K : Fg) : Sp := fun vs H Q _ => ∃ (r a : Addr) (ks : List Str), vs = [.ref r, .ref a] ∧ H r = some (RngO r) ∧ SqL K H a (ks.map V.str) ∧ ks.Nodup ∧ ks.length ≤ 3 ∧
  ∀ (v : V) (row : Row) (H' : Hp), Same H H' → RowR H' v row → GoodRow bigN ks row → Q v H'
theorem sub_take {ks : List Str} (hnd : ks.Nodup) {i : Nat} {b : Str} (hb : ks[i]? = some b) {l : List Str} (hl : ∀ k ∈ l, k ∈ ks.take i) : b ∉ l := fun z => by
  obtain ⟨j, hj, e2⟩ := List.mem_iff_getElem.mp (hl b z)
  rw [List.getElem_take] at e2
  rw [List.length_take] at hj
  obtain ⟨hi', e1⟩ := List.getElem?_eq_some_iff.mp hb
  exact List.pairwise_iff_getElem.mp hnd j i (by omega) hi' (by omega) (e2.trans e1.symm)
theorem has_ltable (e : Ev K mg) : Has P w K mg base 4 "_law_table" ["rng", "keys"] (spLTable K) := by
  obtain ⟨fd, F⟩ := e.F_f__law_table
  refine ⟨_, fd, e.g__law_table, ?_, F.kp, F.bindsN fun _ _ _ _ _ _ us hl => match us, hl with | [_, _], _ => rfl⟩
  obtain ⟨f1, d1, m1, G1, k1, b1⟩ := has_draw (P := P) (w := w) (base := base) e
  obtain ⟨f2, d2, m2, G2, k2, b2⟩ := has_number (P := P) (w := w) (base := base) e
  refine F.okD sc_table (fun vs H Q E h => ?_) (fun cdv A outer s H vs Q E hr h => ?_)
  · obtain ⟨r, a, ks, rfl, _⟩ := h; rfl
  · obtain ⟨r, a, ks, rfl, hH, hs, hnd, hl, q⟩ := h
    have hr1 := hr.mono (show 1 ≤ 3 by decide)
    refine ⟨_, pss_one (ps_ret (pe_callTy (call_dictP rfl) rfl e.b_dict boot_dict (pa_cons (pe_lc (own := [("key", 2)]) (g := gName 2) rfl sc_table.nd (pi_list (pv 1)) (blkOk_by (N := ["rng", "keys", "key"]) (sc := defScope f__law_table) (by decide +kernel))
      (fun _ _ _ _ _ => pg_name (i := 2) sc_table.nd rfl (Or.inl rfl)) (fun _ _ _ _ _ => pts_one (pt_cmpR op_gt (pe_call G1 hr1 rfl m1 k1 b1 .nil pass0 (pa_cons (pv 0) (pa_cons pe_int pa_nil))) pe_int (nomark _)))
      (fun _ _ _ _ _ => pe_tup (pa_cons (pv 2) (pa_cons (pe_call G2 hr rfl m2 k2 b2 .nil pass0 (pa_cons (pv 0) pa_nil)) pa_nil)))) pa_nil))), ?_⟩
    refine ⟨_, rfl, a, rfl, ⟨_, hs⟩, fun D hD => ?_⟩
    refine lc_gen (src_list (bs := ks) (R := isS) mn_isS (Each.map V.str fun _ _ => rfl)) isP (fun i row => GoodRow bigN ks row ∧ ∀ k ∈ row.map (·.1), k ∈ ks.take i) ⟨.nil, fun k hk => by simp at hk⟩ ⟨Same.refl _, hs⟩ hD (small1000 (by omega)) ?_ ?_
    · intro i b x H2 acc row Nx hb ⟨hg, hks⟩ s2 _ hx hD2 hl2 _ kF kT
      obtain rfl : x = .str b := hx
      have hbk : b ∈ ks := List.mem_of_getElem? hb
      have hbn := sub_take hnd hb hks
      refine ⟨rfl, _, rfl, r, 3, rfl, by decide, by decide, s2 _ _ hH, fun dd H3 hdd s3 => ?_⟩
      refine ⟨_, _, rfl, rfl, _, rfl, iteD (fun h0 => ?_) (fun h0 => ?_)⟩
      · refine ⟨_, rfl, _, rfl, r, rfl, (s2.trans s3) _ _ hH, fun n H4 hn s4 => ?_⟩
        refine ⟨(by show 2 ≤ sizeLine; decide), fun T hT => ?_⟩
        have s34 := (s3.trans s4).trans (same_upd (o := .tup [.str b, .int n]) hT)
        refine ⟨acc, s34 _ _ hD2, hl2, kT (b, n) ⟨hg.snoc hbk hn hbn, fun k hk => ?_⟩ _ _ s34 fun H5 b5 => ⟨T, rfl, b5 _ _ (fun z => ?_) upd_same⟩⟩
        · rw [List.take_add_one, hb]
          rw [List.map_append, List.mem_append] at hk
          rcases hk with hk | hk
          · exact List.mem_append_left _ (hks k hk)
          · obtain rfl : k = b := by simpa using hk
            exact List.mem_append_right _ (by simp)
        · subst z
          have := (s3.trans s4) _ _ hD2
          rw [hT] at this
          exact nomatch this
      · exact kF ⟨hg, fun k hk => by rw [List.take_add_one]; exact List.mem_append_left _ (hks k hk)⟩ _ s3
    · intro H2 ys row s2 hy ⟨hg, hks⟩ he
      obtain ⟨ps, eps, hp⟩ := isP_pairs (K := K) (he H2 fun _ _ _ z => z)
      refine ⟨D, ps, rowKV row, rfl, SqL.of (by rw [hy, eps]), hp, fun p hp => ?_⟩
      rw [mergeR0 hg.1]
      exact q _ row _ (s2.trans (same_upd hp)) ⟨p, rfl, upd_same⟩ hg
end NG

set_option Elab.async false
set_option linter.all false
set_option maxRecDepth 100000
set_option maxHeartbeats 400000
/-! _law_added, _law_shown -/
namespace NG
open PySem PySem.Spec PyProof.Rows L2 He
variable {P : Program} {w : World} {K : Fg} {mg : Str → Option Value} {base : Heap}
/-! ### _law_added -/
def addR (t o : Row) : Row := o.foldl (fun acc p => putR acc p.1 (atR acc p.1 + p.2)) t
theorem sc_added : FnScope ["table", "other", "found", "key", "number"] ["table", "other"] (defScope f__law_added) := ⟨rfl, rfl, rfl, by decide +kernel, rfl, by decide +kernel, by decide +kernel⟩
def spAdded : Sp := fun vs H Q _ => ∃ (x y : V) (t o : Row), vs = [x, y] ∧ RowL H x t ∧ RowR H y o ∧ t.length ≤ 100 ∧ o.length ≤ 100 ∧
  ∀ (v : V) (H' : Hp), Same H H' → RowR H' v (addR t o) → Q v H'
theorem putR_length (r : Row) (k : Str) (n : Int) : (putR r k n).length ≤ r.length + 1 := by
  have h := length_putK (rowKV r) (Sum.inr k) (.int n)
  rw [putK_row, rowKV_length, rowKV_length] at h
  exact h
theorem addR_length : ∀ (o t : Row), (addR t o).length ≤ t.length + o.length
  | [], t => Nat.le_refl _
  | p :: l, t => by
    have h1 := addR_length l (putR t p.1 (atR t p.1 + p.2))
    have h2 := putR_length t p.1 (atR t p.1 + p.2)
    show (addR (putR t p.1 (atR t p.1 + p.2)) l).length ≤ _
    rw [List.length_cons]
    omega
theorem addR_snoc (t o : Row) (p : Str × Int) : addR t (o ++ [p]) = putR (addR t o) p.1 (atR (addR t o) p.1 + p.2) := by
  unfold addR
  rw [List.foldl_append]
  rfl
theorem take_snoc {α : Type} {l : List α} {i : Nat} {b : α} (hb : l[i]? = some b) : l.take (i + 1) = l.take i ++ [b] := by
  rw [List.take_add_one, hb]; rfl
theorem has_added (e : Ev K mg) : Has P w K mg base 1 "_law_added" ["table", "other"] spAdded := by
  obtain ⟨fd, F⟩ := e.F_f__law_added
  refine ⟨_, fd, e.g__law_added, ?_, F.kp, F.bindsN fun _ _ _ _ _ _ us hl => match us, hl with | [_, _], _ => rfl⟩
  refine F.okD sc_added (fun vs H Q E h => ?_) (fun cdv A outer s H vs Q E hr h => ?_)
  · obtain ⟨x, y, t, o, rfl, _⟩ := h; rfl
  · obtain ⟨x, y, t, o, rfl, ⟨dt, rfl, ht⟩, ⟨dd, rfl, hd⟩, lt, lo, q⟩ := h
    refine ⟨_, pss_cons (ps_set (i := 2) sc_added.nd rfl (Or.inl rfl) (pe_callTy call_dictD rfl e.b_dict boot_dict (pa_cons (pv 0) pa_nil)))
      (pss_cons (ps_lock (ps_for (g := gTup K 2 _) PassesOwn.never rfl (pi_items (pv 1)) (pg_tup rfl (pgs_cons (pg_name (i := 3) sc_added.nd rfl (Or.inl rfl)) (pgs_cons (pg_name (i := 4) sc_added.nd rfl (Or.inl rfl)) pgs_nil)))
        (pss_one (ps_dput (hu_of hr) (pv 2) (pv 3) (pe_op op_add (pe_dget2 (hu_of hr) (pv 2) (pv 3) pe_int ⟨rfl, rfl, rfl, rfl⟩) (pv 4)) rfl))))
      (pss_one (ps_ret (pv 2)))), ?_⟩
    refine ⟨_, rfl, dt, _, rfl, ht, fun p hp => ?_⟩
    have s1 := same_upd (o := .dK (rowKV t)) hp
    have hpd : p ≠ dd := fun z => by rw [z, hd] at hp; exact nomatch hp
    refine ⟨dd, _, s1 _ _ hd, trivial, fun od => ?_⟩
    refine ⟨_, rfl, dd, od, rowKV o, rfl, upd_same, ?_⟩
    refine for_src src_row (fun i σ H2 => ∃ x3 x4, σ = [some (.ref dt), some (.ref dd), some (.ref p), x3, x4] ∧ But p (upd (upd H p (.dK (rowKV t))) dd (.frz od (.dK (rowKV o)))) H2 ∧ H2 p = some (.dK (rowKV (addR t (o.take i)))))
      ⟨none, none, rfl, fun _ _ _ z => z, by rw [upd_ne hpd, upd_same]; rfl⟩ (fun i σ H2 ⟨x3, x4, e1, b2, _⟩ => b2 _ _ (fun z => hpd z.symm) upd_same) ?_ ?_
    · rintro i b x σ H2 H3 hb hi ⟨x3, x4, rfl, b2, hp2⟩ s3 ⟨T, rfl, hT⟩
      refine ⟨T, _, rfl, SqT.of hT, rfl, _, _, rfl, _, _, rfl, rfl, ?_⟩
      have hp3 := s3 _ _ hp2
      refine ⟨_, rfl, p, rfl, .inl ⟨_, .inl hp3⟩, _, rfl, _, DGet.k (k := Sum.inr b.1) hp3, ?_⟩
      rw [valV_row, getD_int]
      refine ⟨_, rfl, _, _, rfl, rfl, _, rfl, _, rfl, p, _, rfl, DPut.k (k := Sum.inr b.1) hp3 ?_, ?_⟩
      · rw [rowKV_length]
        have := addR_length (o.take i) t
        have h2 : (o.take i).length ≤ o.length := by rw [List.length_take]; omega
        exact small1000 (by omega)
      · refine ⟨_, _, rfl, (b2.trans (But.of_same s3)).trans But.upd, ?_⟩
        rw [upd_same, putK_row, take_snoc hb, addR_snoc]
        rfl
    · rintro σ H2 ⟨x3, x4, rfl, b2, hp2⟩
      rw [List.take_length] at hp2
      have hd2 : H2 dd = some (.frz od (.dK (rowKV o))) := b2 _ _ (fun z => hpd z.symm) upd_same
      refine ⟨hd2, _, rfl, q _ _ ?_ ⟨p, rfl, by rw [upd_ne hpd]; exact hp2⟩⟩
      intro c u hc
      have hcp : c ≠ p := ne_of_none hc hp
      by_cases hcd : c = dd
      · subst hcd
        rw [hd] at hc
        cases hc
        exact upd_same
      · rw [upd_ne hcd]
        exact b2 c u hcp (by rw [upd_ne hcd, upd_ne hcp]; exact hc)
end NG

set_option Elab.async false
set_option linter.all false
set_option maxRecDepth 100000
set_option maxHeartbeats 400000
/-! _law_shown -/
namespace NG
open PySem PySem.Spec PyProof.Rows L2 He
variable {P : Program} {w : World} {K : Fg} {mg : Str → Option Value} {base : Heap}
/-- what a row shows of a table -/
def dotR (row t : Row) : Int := (row.map fun p => p.2 * atR t p.1).sum
def shownR (rows : List Row) (t : Row) : List Int := rows.map fun row => dotR row t
/-- a list of rows -/
def RowsR (K : Fg) : Rl (List Row) := fun H v rows => ∃ a vs, v = .ref a ∧ SqL K H a vs ∧ Each RowR H vs rows
theorem mn_Rows : Mn (RowsR K) := fun _ _ _ _ s ⟨a, vs, e, h, t⟩ => ⟨a, vs, e, s.seq h, t.mono mn_Row s⟩
def szT : Nat := 400
def SmallR (n : Nat) (r : Row) : Prop := r.length ≤ 100 ∧ ∀ p ∈ r, p.2.natAbs < 2 ^ n
def SmallT (n : Nat) (t : Row) : Prop := ∀ k, (atR t k).natAbs < 2 ^ n
def spShown (K : Fg) : Sp := fun vs H Q _ => ∃ (x y : V) (rows : List Row) (t : Row), vs = [x, y] ∧ RowsR K H x rows ∧ RowL H y t ∧ rows.length ≤ 100 ∧ (∀ r ∈ rows, SmallR szT r) ∧ SmallT szT t ∧
  ∀ (T : Addr) (H' : Hp), Same H H' → H' T = some (.tup ((shownR rows t).map V.int)) → Q (.ref T) H'
abbrev nShown : List Str := ["note", "table", "row", "key", "number"]
theorem look_relabel (env : Env) : ∀ {names : List (Str × NameKind)} {x : Str}, (names.lookup x = some .cell ∨ names.lookup x = some .free) →
    ((names.map fun (n, k) => if (k == NameKind.free && env.scope.kind == .function && env.kindOf n == some .cell) then (n, NameKind.cell) else (n, k)).lookup x = some .cell ∨
     (names.map fun (n, k) => if (k == NameKind.free && env.scope.kind == .function && env.kindOf n == some .cell) then (n, NameKind.cell) else (n, k)).lookup x = some .free)
  | [], x, h => by simp at h
  | (n, k) :: r, x, h => by
    have ih := @look_relabel env r x
    by_cases hc : (k == NameKind.free && env.scope.kind == .function && env.kindOf n == some .cell) = true
    · rw [List.map_cons]
      simp only [if_pos hc]
      cases hx : x == n with
      | true => left; simp only [List.lookup_cons, hx]
      | false => simp only [List.lookup_cons, hx] at h ⊢; exact ih h
    · rw [List.map_cons]
      simp only [if_neg hc]
      cases hx : x == n with
      | true => simp only [List.lookup_cons, hx] at h ⊢; exact h
      | false => simp only [List.lookup_cons, hx] at h ⊢; exact ih h
/-- a block within a block -/
theorem blk_in {N : List Str} {sc0 scope : Scope} {own : List (Str × Nat)} (h : BlkOk N sc0 scope own) (cl : List (Str × Addr)) (C : Addr) (env : Env) : BlkOk N (compEnvC sc0 cl C env).scope scope own :=
  ⟨h.kind, h.uniq, h.ix, fun y hy e => look_relabel env (h.free y hy e), h.own⟩
theorem bt_sum : bootBuiltins "sum" = some (.builtin "sum") := by decide +kernel
def scRow : Scope := { kind := .function, names := [(".0", .local), ("row", .local), ("sum", .globalImplicit), ("table", .free)], isGenerator := false, isCoroutine := false }
theorem sc_shown : FnScope nShown ["note", "table"] (defScope f__law_shown) := ⟨rfl, rfl, rfl, by decide +kernel, rfl, by decide +kernel, by decide +kernel⟩
theorem has_lshown (e : Ev K mg) : Has P w K mg base 1 "_law_shown" ["note", "table"] (spShown K) := by
  obtain ⟨fd, F⟩ := e.F_f__law_shown
  refine ⟨_, fd, e.g__law_shown, ?_, F.kp, F.bindsN fun _ _ _ _ _ _ us hl => match us, hl with | [_, _], _ => rfl⟩
  refine F.okD sc_shown (fun vs H Q E h => ?_) (fun cdv A outer s H vs Q E hr h => ?_)
  · obtain ⟨x, y, rows, t, rfl, _⟩ := h; rfl
  · obtain ⟨x, y, rows, t, rfl, ⟨a, vs, rfl, ha, hrs⟩, ⟨dt, rfl, ht⟩, hl, hsm, hst, q⟩ := h
    refine ⟨_, pss_one (ps_ret (pe_callTy call_tuple_of rfl e.b_tuple boot_tuple (pa_cons (pe_lc (own := [("row", 2)]) (g := gName 2) (tt := tYes) rfl sc_shown.nd (pi_list (pv 0)) (blkOk_by (N := nShown) (sc := defScope f__law_shown) (by decide +kernel))
      (fun _ _ _ _ _ => pg_name (i := 2) sc_shown.nd rfl (Or.inl rfl)) (fun _ _ _ _ _ => pts_nil)
      (fun _ _ _ _ _ => pe_callB (show CallR _ (.builtin "sum") (rSum K) from cr_sum rfl) rfl e.b_sum bt_sum (pa_cons (pe_lock (pe_lc (own := [("key", 3), ("number", 4)]) (g := gTup K 2 _) (tt := tYes) rfl sc_shown.nd (pi_items (pv 2)) (blk_in (sc0 := scRow) (blkOk_by (N := nShown) (sc := scRow) (by decide +kernel)) _ _ _)
        (fun _ _ _ _ _ => pg_tup rfl (pgs_cons (pg_name (i := 3) sc_shown.nd rfl (Or.inl rfl)) (pgs_cons (pg_name (i := 4) sc_shown.nd rfl (Or.inl rfl)) pgs_nil))) (fun _ _ _ _ _ => pts_nil)
        (fun _ _ _ _ _ => pe_op op_mulW (pv 4) (pe_dget2 (hu_of hr) (pv 1) (pv 3) pe_int ⟨rfl, rfl, rfl, rfl⟩)))) pa_nil))) pa_nil))), ?_⟩
    refine ⟨_, rfl, a, rfl, ⟨_, ha⟩, fun D hD => ?_⟩
    have hlr : rows.length < sizeLine := small1000 (by omega)
    refine lc_src (src_list mn_Row hrs) isI (fun row => dotR row t) (fun _ => true) ⟨Same.refl _, ha⟩ hD hlr ?_ ?_
    · intro i row x H2 acc Nx hb s2 _ ⟨d, ex, hd⟩ hD2 hl2 _ _ kT
      subst ex
      have hlt2 : RowL H2 (.ref dt) t := mn_RowL _ _ _ _ s2 ⟨dt, rfl, ht⟩
      refine ⟨rfl, tYes_of ?_⟩
      refine ⟨d, _, hd, trivial, fun od => ?_⟩
      refine ⟨_, rfl, d, od, rowKV row, rfl, upd_same, fun D2 hD2' => ?_⟩
      have hrow := hsm row (List.mem_of_getElem? hb)
      refine lc_src src_row isI (fun p => p.2 * atR t p.1) (fun _ => true) upd_same hD2' (small1000 (by have := hrow.1; omega)) ?_ ?_
      · intro j p y H3 acc2 Nx2 hp s3 hd3 ⟨T, ey, hT⟩ hD3 hl3 _ _ kT2
        subst ey
        have hlt3 : RowL H3 (.ref dt) t := mn_RowL _ _ _ _ s3 (hlt2.lock hd)
        refine ⟨T, _, rfl, SqT.of hT, rfl, _, _, rfl, _, _, rfl, rfl, rfl, tYes_of ?_⟩
        refine ⟨_, rfl, _, rfl, dt, rfl, hlt3.isD, _, rfl, _, hlt3.get p.1, ?_⟩
        rw [getD_int]
        refine ⟨_, _, rfl, rfl, wide_mul (hrow.2 p (List.mem_of_getElem? hp)) (hst p.1) (by decide) (by decide) (by decide), acc2, hD3, hl3, ?_⟩
        exact kT2 rfl _ _ (Same.refl _) fun _ _ => rfl
      · intro H3 ys s3 hy he
        have ey := (he H3 fun _ _ _ z => z).eq_map V.int (fun _ _ z => z)
        rw [filt] at ey
        have hd3 : H3 d = some (.frz od (.dK (rowKV row))) := s3 _ _ upd_same
        have hDd : D2 ≠ d := fun z => by rw [z, upd_same] at hD2'; exact nomatch hD2'
        have sU := unlock_same hd s3
        refine ⟨hd3, D2, _, rfl, SqL.of (by rw [upd_ne hDd, hy, ey]), acc, ?_, hl2, ?_⟩
        · exact sU _ _ hD2
        · exact kT rfl _ _ sU fun _ _ => rfl
    · intro H2 ys s2 hy he
      have ey := (he H2 fun _ _ _ z => z).eq_map V.int (fun _ _ z => z)
      rw [filt] at ey
      refine ⟨D, _, rfl, .inl ⟨SqL.of hy, fun l hl' => ?_⟩⟩
      refine q l _ (s2.trans (same_upd hl')) ?_
      rw [upd_same, ey]
      rfl
end NG

set_option Elab.async false
set_option linter.all false
set_option maxRecDepth 100000
set_option maxHeartbeats 400000
/-! _law_model -/
namespace NG
open PySem PySem.Spec PyProof.Rows L2 He
/-- the heap without what is at d -/
def del (d : Addr) (H : Hp) : Hp := fun b => if b = d then none else H b
theorem del_ne {d b : Addr} {H : Hp} (h : b ≠ d) : del d H b = H b := if_neg h
theorem del_same {d : Addr} {H : Hp} : Same (del d H) H := fun b o e => by
  unfold del at e
  by_cases hb : b = d
  · rw [if_pos hb] at e; exact nomatch e
  · rw [if_neg hb] at e; exact e
theorem del_but {d : Addr} {H H' : Hp} (b : But d H H') : Same (del d H) (del d H') := fun c o e => by
  unfold del at e ⊢
  by_cases hc : c = d
  · rw [if_pos hc] at e; exact nomatch e
  · rw [if_neg hc] at e ⊢; exact b _ _ hc e
theorem RowR.del {d : Addr} {xs : List V} {H : Hp} {v : V} {r : Row} (h : RowR H v r) (hd : H d = some (.lst xs)) : RowR (del d H) v r := by
  obtain ⟨c, e, h⟩ := h
  refine ⟨c, e, ?_⟩
  rw [del_ne]
  · exact h
  · intro z; subst z; rw [h] at hd; exact nomatch hd
theorem Each.drop {α : Type} {R : Rl α} {H : Hp} {vs : List V} {as : List α} (h : Each R H vs as) : ∀ n : Nat, Each R H (vs.drop n) (as.drop n) := by
  induction h with
  | nil => intro n; simp; exact .nil
  | cons r t ih =>
    intro n
    cases n with
    | zero => exact .cons r t
    | succ m => exact ih m
theorem Each.take {α : Type} {R : Rl α} {H : Hp} {vs : List V} {as : List α} (h : Each R H vs as) : ∀ n : Nat, Each R H (vs.take n) (as.take n) := by
  induction h with
  | nil => intro n; simp; exact .nil
  | cons r t ih =>
    intro n
    cases n with
    | zero => exact .nil
    | succ m => exact .cons r (ih m)
variable {P : Program} {w : World} {K : Fg} {mg : Str → Option Value} {base : Heap}
abbrev MdE := Str × Int × List Row
/-- one seed of a model -/
def MdR (K : Fg) : Rl MdE := fun H v m => ∃ T x, v = .ref T ∧ H T = some (.tup [.str m.1, .int m.2.1, x]) ∧ RowsR K H x m.2.2
theorem mn_Md : Mn (MdR K) := fun _ _ _ _ s ⟨T, x, e, h, r⟩ => ⟨T, x, e, s _ _ h, mn_Rows _ _ _ _ s r⟩
def nmS (i : Nat) : Str := "s" ++ numS (i : Int)
theorem num4 : ∀ i : Nat, i < 4 → (numS (i : Int)).length ≤ 100 := by decide +kernel
def GoodRows (ks : List Str) (rows : List Row) : Prop := rows.length ≤ 3 ∧ ∀ row ∈ rows, GoodRow 3 ks row
def GoodMd (ks : List Str) (md : List MdE) : Prop := md.map (·.1) = (List.range md.length).map nmS ∧ ∀ m ∈ md, (1 ≤ m.2.1 ∧ m.2.1 ≤ 3) ∧ GoodRows ks m.2.2
theorem GoodMd.nil {ks : List Str} : GoodMd ks [] := ⟨rfl, fun m hm => by simp at hm⟩
theorem GoodMd.snoc {ks : List Str} {md : List MdE} {wt : Int} {rows : List Row} (h : GoodMd ks md) (hw : 1 ≤ wt ∧ wt ≤ 3) (hr : GoodRows ks rows) : GoodMd ks (md ++ [(nmS md.length, wt, rows)]) := by
  refine ⟨?_, fun m hm => ?_⟩
  · rw [List.map_append, h.1, List.length_append, List.length_singleton, List.range_succ, List.map_append]
    rfl
  · rcases List.mem_append.mp hm with hm | hm
    · exact h.2 m hm
    · obtain rfl : m = (nmS md.length, wt, rows) := by simpa using hm
      exact ⟨hw, hr⟩
/-- a model -/
def MdsR (K : Fg) : Rl (List MdE) := fun H v md => ∃ a vs, v = .ref a ∧ SqL K H a vs ∧ Each (MdR K) H vs md
theorem mn_Mds : Mn (MdsR K) := fun _ _ _ _ s ⟨a, vs, e, h, t⟩ => ⟨a, vs, e, s.seq h, t.mono mn_Md s⟩
def spModel (K : Fg) : Sp := fun vs H Q _ => ∃ (r a : Addr) (ks : List Str), vs = [.ref r, .ref a, .int 4, .int 3] ∧ H r = some (RngO r) ∧ SqL K H a (ks.map V.str) ∧ ks.Nodup ∧ ks.length ≤ 3 ∧
  ∀ (v : V) (md : List MdE) (H' : Hp), Same H H' → MdsR K H' v md → GoodMd ks md → 1 ≤ md.length → md.length ≤ 4 → Q v H'
abbrev nModel : List Str := ["rng", "keys", "seeds", "sums", "many", "found", "way", "k", "size", "rows", "turn", "key"]
theorem sc_model : FnScope nModel ["rng", "keys", "seeds", "sums"] (defScope f__law_model) := ⟨rfl, rfl, rfl, by decide +kernel, rfl, by decide +kernel, by decide +kernel⟩
theorem has_model (e : Ev K mg) : Has P w K mg base 4 "_law_model" ["rng", "keys", "seeds", "sums"] (spModel K) := by
  obtain ⟨fd, F⟩ := e.F_f__law_model
  refine ⟨_, fd, e.g__law_model, ?_, F.kp, F.bindsN fun _ _ _ _ _ _ us hl => match us, hl with | [_, _, _, _], _ => rfl⟩
  obtain ⟨f1, d1, m1, G1, k1, b1⟩ := has_draw (P := P) (w := w) (base := base) e
  obtain ⟨f2, d2, m2, G2, k2, b2⟩ := has_row_of (P := P) (w := w) (base := base) e
  refine F.okD sc_model (fun vs H Q E h => ?_) (fun cdv A outer s H vs Q E hr h => ?_)
  · obtain ⟨r, a, ks, rfl, _⟩ := h; rfl
  · obtain ⟨r, a, ks, rfl, hH, hs, hnd, hl, q⟩ := h
    have hr1 := hr.mono (show 1 ≤ 3 by decide)
    refine ⟨_, pss_cons (ps_par3 (i := 4) (j := 5) (l := 6) rfl sc_model.nd rfl rfl rfl (by decide) (by decide) (by decide) rfl rfl rfl (pa_cons (pe_op op_add pe_int (pe_call G1 hr1 rfl m1 k1 b1 .nil pass0 (pa_cons (pv 0) (pa_cons (pv 2) pa_nil)))) (pa_cons (pe_lst pa_nil) (pa_cons (pe_call G1 hr1 rfl m1 k1 b1 .nil pass0 (pa_cons (pv 0) (pa_cons pe_int pa_nil))) pa_nil))) rfl)
      (pss_cons (ps_for (g := gName 7) PassesOwn.never rfl (pi_range1 rfl e.b_range (pa_cons (pv 4) pa_nil)) (pg_name (i := 7) sc_model.nd rfl (Or.inl rfl))
        (pss_cons (ps_set (i := 8) sc_model.nd rfl (Or.inl rfl) (pe_call G1 hr1 rfl m1 k1 b1 .nil pass0 (pa_cons (pv 0) (pa_cons (pe_op op_add (pv 3) pe_int) pa_nil))))
        (pss_cons (ps_setLc (i := 9) (own := [("turn", 10)]) (g := gName 10) (tt := tYes) rfl sc_model.nd rfl rfl (sw_true rfl rfl rfl (by decide +kernel)) (pi_range1 rfl e.b_range (pa_cons (pv 8) pa_nil)) (blkOk_by (N := nModel) (sc := defScope f__law_model) (by decide +kernel))
          (fun _ _ _ _ _ => pg_name (i := 10) sc_model.nd rfl (Or.inl rfl)) (fun _ _ _ _ _ => pts_nil) (fun _ _ _ _ _ => pe_call G2 hr rfl m2 k2 b2 .nil pass0 (pa_cons (pv 0) (pa_cons (pv 1) pa_nil))))
        (pss_cons (ps_if (pt_cmpR op_eq (pv 6) pe_int (nomark _)) (pss_one (ps_set (i := 9) sc_model.nd rfl (Or.inl rfl) (pe_slice sl_list (pe_lc (own := [("key", 11)]) (g := gName 11) rfl sc_model.nd (pi_list (pv 1)) (blkOk_by (N := nModel) (sc := defScope f__law_model) (by decide +kernel))
          (fun _ _ _ _ _ => pg_name (i := 11) sc_model.nd rfl (Or.inl rfl)) (fun _ _ _ _ _ => pts_one (pt_cmpR op_eq (pe_call G1 hr1 rfl m1 k1 b1 .nil pass0 (pa_cons (pv 0) (pa_cons pe_int pa_nil))) pe_int (nomark _)))
          (fun _ _ _ _ _ => pe_disp (pps_cons (pv 11) pe_int pps_nil) rfl rfl (fun z => nomatch z) (by decide))) po_none (po_some (pv 3))))) pss_nil)
        (pss_one (ps_expr (pe_bm PySem.F.plainAttrs_list PySem.F.slot_list_append PySem.F.type_list_append mt_append (pv 5) (pa_cons (pe_tup (pa_cons (pe_op op_add_str pe_str (pe_callTy call_str_int rfl e.b_str boot_str (pa_cons (pv 7) pa_nil))) (pa_cons (pe_op op_add pe_int (pe_call G1 hr1 rfl m1 k1 b1 .nil pass0 (pa_cons (pv 0) (pa_cons pe_int pa_nil)))) (pa_cons (pv 9) pa_nil)))) pa_nil))))))))
      (pss_one (ps_ret (pv 5)))), ?_⟩
    refine ⟨_, rfl, _, rfl, r, 4, rfl, by decide, by decide, hH, fun n1 H1 hn1 s1 => ?_⟩
    refine ⟨_, _, rfl, rfl, Nat.zero_le _, fun af haf => ?_⟩
    have s1f := same_upd (o := .lst []) haf
    refine ⟨_, rfl, r, 3, rfl, by decide, by decide, (s1.trans s1f) _ _ hH, fun wy H2 hwy s2 => ?_⟩
    refine ⟨_, _, _, rfl, ?_⟩
    have hf2 : H2 af = some (.lst []) := s2 _ _ upd_same
    have hmany : 1 ≤ (1 + (n1 : Int)).toNat ∧ (1 + (n1 : Int)).toNat ≤ 4 := by omega
    refine ⟨_, rfl, _, rfl, by omega, by omega, ?_⟩
    have s12 := (s1.trans s1f).trans s2
    have haf0 : H af = none := by
      cases hq : H af with
      | none => rfl
      | some o => have := s1 _ _ hq; rw [haf] at this; exact nomatch this
    have nf : ∀ c o, H c = some o → c ≠ af := fun c o hc z => by
      subst z
      have := s1 _ _ hc
      rw [haf] at this
      exact nomatch this
    refine for_src (src_range (lo := 0) (n := (1 + (n1 : Int)).toNat)) (fun i σ H3 => ∃ md vs x7 x8 x9 x10 x11, σ = [some (.ref r), some (.ref a), some (.int 4), some (.int 3), some (.int (1 + (n1 : Int))), some (.ref af), some (.int wy), x7, x8, x9, x10, x11] ∧ Same H H3 ∧ H3 af = some (.lst vs) ∧ Each (MdR K) (del af H3) vs md ∧ md.length = i ∧ GoodMd ks md)
      ⟨[], [], none, none, none, none, none, rfl, s12, hf2, .nil, rfl, .nil⟩ (fun _ _ _ _ => trivial) ?_ ?_
    · rintro i b x σ H3 H4 hb hi ⟨md, vs, x7, x8, x9, x10, x11, rfl, s3, hf3, hmd, hlen, hgm⟩ s4 rfl
      rw [iota_length] at hi
      have hbi : b = (i : Int) := by
        have := hb
        simp [iota, hi] at this
        omega
      subst hbi
      have s34 := s3.trans s4
      refine ⟨_, rfl, _, rfl, _, _, rfl, rfl, r, 4, rfl, by decide, by decide, s34 _ _ hH, fun sz H5 hsz s5 => ?_⟩
      have s35 := s34.trans s5
      have hf5 : H5 af = some (.lst vs) := (s4.trans s5) _ _ hf3
      refine ⟨_, rfl, _, rfl, by omega, by omega, fun D hD => ?_⟩
      refine lc_gen (src_range (lo := 0) (n := (sz : Int).toNat)) RowR (fun j rows => rows.length = j ∧ ∀ row ∈ rows, GoodRow 3 ks row) ⟨rfl, fun row h => by simp at h⟩ trivial hD (by rw [iota_length]; exact small1000 (by omega)) ?_ ?_
      · intro j b' x' H6 acc rows Nx hb' ⟨hrl, hrg⟩ s6 _ hx' hD6 hl6 _ _ kT
        refine ⟨rfl, tYes_of ?_⟩
        refine ⟨_, rfl, _, rfl, r, a, ks, rfl, (s35.trans s6) _ _ hH, (s35.trans s6).seq hs, hnd, hl, fun v row H7 s7 hrow hgr => ?_⟩
        refine ⟨acc, s7 _ _ hD6, hl6, kT row ⟨by simp [hrl], fun y hy => ?_⟩ _ _ s7 fun H8 b8 => ?_⟩
        · rcases List.mem_append.mp hy with hy | hy
          · exact hrg y hy
          · obtain rfl : y = row := by simpa using hy
            exact hgr
        · obtain ⟨c, ec, hc⟩ := hrow
          exact ⟨c, ec, b8 _ _ (fun z => by subst z; rw [s7 _ _ hD6] at hc; exact nomatch hc) hc⟩
      intro H6 vs5 rows5 s6 hD5 ⟨hrl, hrg⟩ he
      have hE5 : Each RowR H6 vs5 rows5 := he H6 fun _ _ _ z => z
      have hg5 : GoodRows ks rows5 := ⟨by rw [hrl, iota_length]; omega, hrg⟩
      have hne : D ≠ af := fun z => by rw [z, hf5] at hD; exact nomatch hD
      have s36 := s35.trans s6
      have sm := (s4.trans s5).trans s6
      refine ⟨_, rfl, rfl, _, rfl, ?_⟩
      by_cases hw : V.int wy = V.int 0
      · rw [decide_eq_true hw]
        refine iteT ?_
        refine ⟨_, rfl, a, rfl, ⟨_, s36.seq hs⟩, fun D' hD' => ?_⟩
        refine lc_gen (src_list (bs := ks) (R := isS) mn_isS (Each.map V.str fun _ _ => rfl)) RowR (fun j rows => rows.length ≤ j ∧ ∀ row ∈ rows, GoodRow 3 ks row) ⟨Nat.le_refl _, fun row h => by simp at h⟩ ⟨Same.refl _, s36.seq hs⟩ hD' (small1000 (by omega)) ?_ ?_
        · intro j k x' H7 acc rows Nx hk ⟨hrl', hrg'⟩ s7 _ hx' hD7 hl7 _ kF kT
          obtain rfl : x' = .str k := hx'
          refine ⟨rfl, _, rfl, r, 2, rfl, by decide, by decide, (s36.trans s7) _ _ hH, fun dd H8 hdd s8 => ?_⟩
          refine ⟨rfl, _, rfl, ?_⟩
          by_cases hz : V.int dd = V.int 0
          · rw [decide_eq_true hz]
            refine iteT ?_
            intro p hp
            refine ⟨_, rfl, upd_same, [(Sum.inr k, .int 1)], rfl, (by show 1 ≤ 15; decide), ?_⟩
            have sp : Same H8 (upd (upd H8 p (.dK [])) p (.dK (mergeK [] [(Sum.inr k, .int 1)]))) := fun c o hc => by
              have hcp : c ≠ p := ne_of_none hc hp
              rw [upd_ne hcp, upd_ne hcp]; exact hc
            refine ⟨acc, sp _ _ (s8 _ _ hD7), hl7, kT [(k, 1)] ⟨by rw [List.length_append]; simp; omega, fun y hy => ?_⟩ _ _ (s8.trans sp) fun H9 b9 => ?_⟩
            · rcases List.mem_append.mp hy with hy | hy
              · exact hrg' y hy
              · obtain rfl : y = [(k, 1)] := by simpa using hy
                exact GoodRow.snoc (n := 1) .nil (List.mem_of_getElem? hk) (by decide) (by simp)
            · exact ⟨p, rfl, b9 _ _ (fun z => by subst z; rw [s8 _ _ hD7] at hp; exact nomatch hp) upd_same⟩
          · rw [decide_eq_false hz]
            refine iteF ?_
            exact kF ⟨by omega, hrg'⟩ _ s8
        · intro H7 vs7 rows7 s7 hD7 ⟨hrl7, hrg7⟩ he7
          have hE7 : Each RowR H7 vs7 rows7 := he7 H7 fun _ _ _ z => z
          refine ⟨_, rfl, _, rfl, D', vs7, rfl, SqL.of hD7, fun D hD => ?_⟩
          have hf7 : H7 af = some (.lst vs) := s7 _ _ ((sm.trans (Same.refl _)) _ _ hf3)
          have hne : D ≠ af := fun z => by rw [z, hf7] at hD; exact nomatch hD
          have s36 := (s36.trans s7).trans (same_upd (o := .lst (cutV vs7 none (some 3))) hD)
          have sm := (sm.trans s7).trans (same_upd (o := .lst (cutV vs7 none (some 3))) hD)
          have hD5 : (upd H7 D (.lst (cutV vs7 none (some 3)))) D = some (.lst (cutV vs7 none (some 3))) := upd_same
          obtain ⟨rows5, hE5, hg5⟩ : ∃ rows5, Each RowR (upd H7 D (.lst (cutV vs7 none (some 3)))) (cutV vs7 none (some 3)) rows5 ∧ GoodRows ks rows5 :=
            ⟨_, ((hE7.mono mn_Row (same_upd hD)).drop _).take _, by simp only [List.length_take, List.length_drop]; omega, fun y hy => hrg7 y (List.mem_of_mem_drop (List.mem_of_mem_take hy))⟩
          have hf5 := sm _ _ hf3
          refine ⟨_, rfl, .inl ⟨rfl, _, SqL.of hf5⟩, _, rfl, _, rfl, ?_, _, _, rfl, rfl, ?_, ?_⟩
          · have : ((i : Int).natAbs).log2 < 3 := PySem.Flt.log2_lt_of (by decide) (by show (i : Int).natAbs < 8; omega)
            omega
          · have h2 : (numS (i : Int)).length ≤ 100 := num4 i (by omega)
            show 1 + (numS (i : Int)).length ≤ sizeLine
            rw [sizeLine_eq]
            omega
          refine ⟨_, rfl, r, 3, rfl, by decide, by decide, s36 _ _ hH, fun wt H9 hwt s9 => ?_⟩
          refine ⟨_, _, rfl, rfl, _, rfl, (by show 3 ≤ sizeLine; decide), fun T hT => ?_⟩
          have hf9 : H9 af = some (.lst vs) := s9 _ _ hf5
          have hTf : T ≠ af := fun z => by rw [z, hf9] at hT; exact nomatch hT
          refine ⟨af, vs, _, rfl, rfl, by rw [upd_ne (fun z => hTf z.symm)]; exact hf9, by rw [hmd.length, hlen]; exact small1000 (by omega), ?_⟩
          have sT := same_upd (o := .tup [.str (nmS i), .int (1 + (wt : Int)), .ref D]) hT
          refine ⟨md ++ [(nmS md.length, 1 + (wt : Int), _)], _, _, _, _, _, _, rfl, Same.butN ((s36.trans s9).trans sT) haf0 But.upd, upd_same, ?_, by rw [List.length_append, hlen]; rfl, hgm.snoc (by omega) hg5⟩
          have sA : Same (del af H3) (del af (upd (upd H9 T (.tup [.str (nmS i), .int (1 + (wt : Int)), .ref D])) af (.lst (vs ++ [.ref T])))) := del_but ((But.of_same ((sm.trans s9).trans sT)).trans But.upd)
          refine (hmd.mono mn_Md sA).append (.cons ⟨T, .ref D, rfl, ?_, D, cutV vs7 none (some 3), rfl, SqL.of ?_, ?_⟩ .nil)
          · rw [del_ne hTf, upd_ne hTf, upd_same, hlen]
          · rw [del_ne hne, upd_ne hne]
            exact (s9.trans sT) _ _ hD5
          · refine hE5.imp fun v row _ hv => ?_
            have hv2 := hv.del hf5
            refine mn_Row _ _ _ _ (del_but ((But.of_same (s9.trans sT)).trans But.upd)) hv2
      · rw [decide_eq_false hw]
        refine iteF ?_
        have hf5 := sm _ _ hf3
        refine ⟨_, rfl, .inl ⟨rfl, _, SqL.of hf5⟩, _, rfl, _, rfl, ?_, _, _, rfl, rfl, ?_, ?_⟩
        · have : ((i : Int).natAbs).log2 < 3 := PySem.Flt.log2_lt_of (by decide) (by show (i : Int).natAbs < 8; omega)
          omega
        · have h2 : (numS (i : Int)).length ≤ 100 := num4 i (by omega)
          show 1 + (numS (i : Int)).length ≤ sizeLine
          rw [sizeLine_eq]
          omega
        refine ⟨_, rfl, r, 3, rfl, by decide, by decide, s36 _ _ hH, fun wt H9 hwt s9 => ?_⟩
        refine ⟨_, _, rfl, rfl, _, rfl, (by show 3 ≤ sizeLine; decide), fun T hT => ?_⟩
        have hf9 : H9 af = some (.lst vs) := s9 _ _ hf5
        have hTf : T ≠ af := fun z => by rw [z, hf9] at hT; exact nomatch hT
        refine ⟨af, vs, _, rfl, rfl, by rw [upd_ne (fun z => hTf z.symm)]; exact hf9, by rw [hmd.length, hlen]; exact small1000 (by omega), ?_⟩
        have sT := same_upd (o := .tup [.str (nmS i), .int (1 + (wt : Int)), .ref D]) hT
        refine ⟨md ++ [(nmS md.length, 1 + (wt : Int), _)], _, _, _, _, _, _, rfl, Same.butN ((s36.trans s9).trans sT) haf0 But.upd, upd_same, ?_, by rw [List.length_append, hlen]; rfl, hgm.snoc (by omega) hg5⟩
        have sA : Same (del af H3) (del af (upd (upd H9 T (.tup [.str (nmS i), .int (1 + (wt : Int)), .ref D])) af (.lst (vs ++ [.ref T])))) := del_but ((But.of_same ((sm.trans s9).trans sT)).trans But.upd)
        refine (hmd.mono mn_Md sA).append (.cons ⟨T, .ref D, rfl, ?_, D, vs5, rfl, SqL.of ?_, ?_⟩ .nil)
        · rw [del_ne hTf, upd_ne hTf, upd_same, hlen]
        · rw [del_ne hne, upd_ne hne]
          exact (s9.trans sT) _ _ hD5
        · refine hE5.imp fun v row _ hv => ?_
          have hv2 := hv.del hf5
          refine mn_Row _ _ _ _ (del_but ((But.of_same (s9.trans sT)).trans But.upd)) hv2
    · rintro σ H3 ⟨md, vs, x7, x8, x9, x10, x11, rfl, s3, hf3, hmd, hlen, hgm⟩
      rw [iota_length] at hlen
      exact ⟨_, rfl, q _ md H3 s3 ⟨af, vs, rfl, SqL.of hf3, hmd.mono mn_Md del_same⟩ hgm (by omega) (by omega)⟩
end NG

set_option Elab.async false
set_option linter.all false
set_option maxRecDepth 100000
set_option maxHeartbeats 400000
/-! is_list, is_row, kept_row -/
namespace NG
open PySem PySem.Spec PyProof.Rows L2 He
variable {P : Program} {w : World} {K : Fg} {mg : Str → Option Value} {base : Heap}
/-! ### is_list -/
theorem sc_is_list : FnScope ["value"] ["value"] (defScope f_is_list) := ⟨rfl, rfl, rfl, by decide +kernel, rfl, by decide +kernel, by decide +kernel⟩
def Lty (K : Fg) (H : Hp) (a : Addr) : Prop := (∃ xs, SqL K H a xs) ∨ ∃ xs, SqT K H a xs
theorem Lty.mono {H H' : Hp} {a : Addr} (s : Same H H') : Lty K H a → Lty K H' a := Or.imp (fun ⟨xs, h⟩ => ⟨xs, s.seq h⟩) fun ⟨xs, h⟩ => ⟨xs, s.tup h⟩
theorem ty_L {H : Hp} {a : Addr} {xs : List V} (h : SqL K H a xs) : TyX K H (.ref a) (.type "list") := by
  rcases h with (h | ⟨o, h⟩) | ⟨o, its, n, h1, h2, _⟩
  · exact .base (.lst h)
  · exact .base (.frz h)
  · exact .kList h1 h2
theorem ty_T {H : Hp} {a : Addr} {xs : List V} (h : SqT K H a xs) : TyX K H (.ref a) (.type "tuple") := by
  rcases h with (h | ⟨o, h⟩) | ⟨o, its, n, h1, h2, _⟩
  · exact .base (.tup h)
  · exact .fTuple h
  · exact .kTuple h1 h2
theorem Lty.ty {H : Hp} {a : Addr} (h : Lty K H a) : ∃ t, TyX K H (.ref a) t ∧ (t = .type "list" ∨ t = .type "tuple") := by
  rcases h with ⟨xs, h⟩ | ⟨xs, h⟩
  · exact ⟨_, ty_L h, .inl rfl⟩
  · exact ⟨_, ty_T h, .inr rfl⟩
def spIsList (K : Fg) : Sp := fun vs H Q _ => ∃ a, vs = [.ref a] ∧ Lty K H a ∧ ∀ H', Same H H' → Q (.bl true) H'
theorem kb_l : PySem.W.kitAny K (.type "list") [.type "list", .type "tuple"] = some true := by
  unfold PySem.W.kitAny
  rw [kit_ty (show kitB "list" "list" = some true by decide +kernel)]
theorem kb_t : PySem.W.kitAny K (.type "tuple") [.type "list", .type "tuple"] = some true := by
  unfold PySem.W.kitAny
  rw [kit_ty (show kitB "tuple" "list" = some false by decide +kernel)]
  show PySem.W.kitAny K (.type "tuple") [.type "tuple"] = some true
  unfold PySem.W.kitAny
  rw [kit_ty (show kitB "tuple" "tuple" = some true by decide +kernel)]
theorem has_is_list (e : Ev K mg) : Has P w K mg base 1 "is_list" ["value"] (spIsList K) := by
  obtain ⟨fd, F⟩ := e.F_f_is_list
  refine ⟨_, fd, e.g_is_list, ?_, F.kp, F.bindsN fun _ _ _ _ _ _ us hl => match us, hl with | [_], _ => rfl⟩
  refine F.okD sc_is_list (fun vs H Q E h => ?_) (fun cdv A outer s H vs Q E hr h => ?_)
  · obtain ⟨a, rfl, _⟩ := h; rfl
  · obtain ⟨a, rfl, ha, q⟩ := h
    refine ⟨_, pss_one (ps_ret (pe_callB call_isiT rfl e.b_isinstance boot_isinstance (pa_cons (pv 0) (pa_cons (pe_tup (pa_cons (pe_bltn (v := .ty "list") rfl e.b_list boot_list rfl) (pa_cons (pe_bltn (v := .ty "tuple") rfl e.b_tuple boot_tuple rfl) pa_nil))) pa_nil)))), ?_⟩
    refine ⟨_, rfl, (by show 2 ≤ sizeLine; decide), fun T hT => ?_⟩
    obtain ⟨t, ht, hc⟩ := (ha.mono (same_upd (o := .tup [.ty "list", .ty "tuple"]) hT)).ty
    refine ⟨.ref a, T, _, t, [.type "list", .type "tuple"], true, rfl, upd_same, .cons (.ty _) (.cons (.ty _) .nil), ht, ?_, q _ (same_upd hT)⟩
    rcases hc with rfl | rfl
    · exact kb_l
    · exact kb_t
/-! ### is_row -/
theorem sc_is_row : FnScope ["value", "key", "number"] ["value"] (defScope f_is_row) := ⟨rfl, rfl, rfl, by decide +kernel, rfl, by decide +kernel, by decide +kernel⟩
def KeysOk (r : Row) : Prop := r.length ≤ 1000 ∧ ∀ p ∈ r, keyS p.1 = true
def spIsRow (K : Fg) : Sp := fun vs H Q _ => ∃ v r, vs = [v] ∧ RowR H v r ∧ KeysOk r ∧ ∀ H', Same H H' → Q (.bl true) H'
theorem all_true {α : Type} (l : List α) : (l.map fun _ => true).all (fun b => b) = true := by
  rw [List.all_eq_true]; intro x hx; obtain ⟨_, _, rfl⟩ := List.mem_map.mp hx; rfl
theorem has_is_row (e : Ev K mg) : Has P w K mg base 2 "is_row" ["value"] (spIsRow K) := by
  obtain ⟨fd, F⟩ := e.F_f_is_row
  refine ⟨_, fd, e.g_is_row, ?_, F.kp, F.bindsN fun _ _ _ _ _ _ us hl => match us, hl with | [_], _ => rfl⟩
  obtain ⟨f1, d1, m1, G1, k1, b1⟩ := has_is_key (P := P) (w := w) (base := base) e
  obtain ⟨f2, d2, m2, G2, k2, b2⟩ := has_is_integer (P := P) (w := w) (base := base) e
  refine F.okD sc_is_row (fun vs H Q E h => ?_) (fun cdv A outer s H vs Q E hr h => ?_)
  · obtain ⟨v, r, rfl, _⟩ := h; rfl
  · obtain ⟨v, r, rfl, ⟨d, rfl, hd⟩, ⟨hl, hk⟩, q⟩ := h
    refine ⟨_, pss_cons (ps_if (pt_not (pt_val (pe_callB call_isi rfl e.b_isinstance boot_isinstance (pa_cons (pv 0) (pa_cons (pe_bltn (v := .ty "dict") rfl e.b_dict boot_dict rfl) pa_nil))))) (pss_one (ps_ret pe_bl)) pss_nil)
      (pss_one (ps_ret (pe_callB (show CallR _ (.builtin "all") _ from cr_all rfl) rfl e.b_all (by decide +kernel) (pa_cons (pe_lock (pe_lc (own := [("key", 1), ("number", 2)]) (g := gTup K 2 _) (tt := tYes) rfl sc_is_row.nd (pi_items (pv 0)) (blkOk_by (N := ["value", "key", "number"]) (sc := defScope f_is_row) (by decide +kernel))
        (fun _ _ _ _ _ => pg_tup rfl (pgs_cons (pg_name (i := 1) sc_is_row.nd rfl (Or.inl rfl)) (pgs_cons (pg_name (i := 2) sc_is_row.nd rfl (Or.inl rfl)) pgs_nil))) (fun _ _ _ _ _ => pts_nil)
        (fun _ _ _ _ _ => pe_and (pe_call G1 hr rfl m1 k1 b1 .nil pass0 (pa_cons (pv 1) pa_nil)) (pe_one (pe_call G2 hr rfl m2 k2 b2 .nil pass0 (pa_cons (pv 2) pa_nil)))))) pa_nil)))), ?_⟩
    refine ⟨_, rfl, _, .ty "dict", _, _, _, rfl, .ty _, .base (.dK hd), kit_ty (by decide +kernel : kitB "dict" "dict" = some true), true, rfl, iteF ?_⟩
    refine ⟨d, _, hd, trivial, fun od => ?_⟩
    refine ⟨_, rfl, d, od, rowKV r, rfl, upd_same, fun D hD => ?_⟩
    refine lc_src src_row isBl (fun _ => true) (fun _ => true) upd_same hD (small1000 hl) ?_ ?_
    · intro j p y H3 acc Nx hp s3 hd3 ⟨T, ey, hT⟩ hD3 hl3 _ _ kT
      subst ey
      refine ⟨T, _, rfl, SqT.of hT, rfl, _, _, rfl, _, _, rfl, rfl, rfl, tYes_of ?_⟩
      have hkp := hk p (List.mem_of_getElem? hp)
      refine ⟨_, rfl, .str p.1, rfl, .inl ⟨p.1, rfl, by have := keyS_len hkp; omega, fun H4 s4 => ?_⟩⟩
      rw [hkp]
      refine ⟨true, rfl, iteT ?_⟩
      refine ⟨_, rfl, .int p.2, rfl, .inl ⟨_, rfl, acc, s4 _ _ hD3, hl3, ?_⟩⟩
      exact kT rfl _ _ s4 fun _ _ => rfl
    · intro H3 ys s3 hy he
      have ey := each_bl (he H3 fun _ _ _ z => z)
      rw [filt] at ey
      have hDd : D ≠ d := fun z => by rw [z, upd_same] at hD; exact nomatch hD
      have sU := unlock_same hd s3
      refine ⟨s3 _ _ upd_same, D, _, rfl, SqL.of (by rw [upd_ne hDd, hy, ey]), ?_⟩
      rw [List.all_map]
      have ea : r.all (id ∘ fun _ : Str × Int => true) = true := List.all_eq_true.mpr fun _ _ => rfl
      rw [ea]
      exact q _ sU
/-! ### kept_row -/
abbrev nKRow : List Str := ["row", "key"]
theorem sc_kept_row : FnScope nKRow ["row"] (defScope f_kept_row) := ⟨rfl, rfl, rfl, by decide +kernel, rfl, by decide +kernel, by decide +kernel⟩
/-- the row without its zeros, in some order -/
def KeptOf (r r' : Row) : Prop := (r'.map (·.1)).Nodup ∧ (∀ k, atR r' k = atR r k) ∧ (∀ p ∈ r', p.2 ≠ 0 ∧ getR r p.1 = some p.2) ∧ ∀ k, atR r k ≠ 0 → k ∈ r'.map (·.1)
def spKeptRow : Sp := fun vs H Q _ => ∃ v r, vs = [v] ∧ RowL H v r ∧ (r.map (·.1)).Nodup ∧ r.length < 64 ∧ ∀ u H' r', Same H H' → RowR H' u r' → KeptOf r r' → Q u H'
theorem rowKV_keys (r : Row) : (rowKV r).map (·.1) = (r.map (·.1)).map Sum.inr := by
  unfold rowKV
  rw [List.map_map, List.map_map]
  rfl
theorem getR_mem {r : Row} {k : Str} (h : k ∈ r.map (·.1)) : ∃ n, getR r k = some n ∧ (k, n) ∈ r := by
  unfold getR
  cases e : r.find? fun p => decide (p.1 = k) with
  | none =>
    rw [List.find?_eq_none] at e
    obtain ⟨p, hp, e2⟩ := List.mem_map.mp h
    exact absurd (decide_eq_true e2) (e p hp)
  | some p =>
    have h1 := List.mem_of_find?_eq_some e
    have h2 := List.find?_some e
    refine ⟨p.2, rfl, ?_⟩
    have h3 : p.1 = k := of_decide_eq_true h2
    rw [← h3]
    exact h1
theorem getR_of {r : Row} {k : Str} {n : Int} (h : getR r k = some n) : (k, n) ∈ r := by
  unfold getR at h
  cases e : r.find? fun p => decide (p.1 = k) with
  | none => rw [e] at h; exact nomatch h
  | some p =>
    rw [e] at h
    have h1 := List.mem_of_find?_eq_some e
    have h2 := List.find?_some e
    have h3 : p.1 = k := of_decide_eq_true h2
    cases h
    rw [← h3]
    exact h1
theorem getR_map (g : Str → Int) : ∀ (l : List Str) (k : Str), getR (l.map fun x => (x, g x)) k = if k ∈ l then some (g k) else none
  | [], k => rfl
  | x :: l, k => by
    have ih := getR_map g l k
    unfold getR at ih ⊢
    rw [List.map_cons, List.find?_cons]
    by_cases h : x = k
    · subst h; simp
    · rw [decide_eq_false h]
      simp only [List.mem_cons]
      rw [ih]
      by_cases h2 : k ∈ l
      · rw [if_pos h2, if_pos (Or.inr h2)]
      · rw [if_neg h2, if_neg (fun z => z.elim (fun z => h z.symm) h2)]
theorem kept_of {r : Row} {ys : List Str} (hp : ys.Perm (r.map (·.1))) (hn : (r.map (·.1)).Nodup) : KeptOf r ((ys.filter fun k => decide (atR r k ≠ 0)).map fun k => (k, atR r k)) := by
  have hyn : ys.Nodup := hp.nodup_iff.mpr hn
  have hg := getR_map (fun k => atR r k) (ys.filter fun k => decide (atR r k ≠ 0))
  refine ⟨?_, fun k => ?_, fun p hp' => ?_, fun k hk => ?_⟩
  · rw [List.map_map]
    have e : ((fun x : Str × Int => x.1) ∘ fun k => (k, atR r k)) = id := rfl
    rw [e, List.map_id]
    exact hyn.filter _
  · show (getR _ k).getD 0 = _
    rw [hg]
    by_cases hm : k ∈ ys.filter fun k => decide (atR r k ≠ 0)
    · rw [if_pos hm]; rfl
    · rw [if_neg hm]
      show 0 = atR r k
      by_cases h0 : atR r k = 0
      · exact h0.symm
      · refine absurd (List.mem_filter.mpr ⟨hp.mem_iff.mpr ?_, by simp [h0]⟩) hm
        by_cases hk : k ∈ r.map (·.1)
        · exact hk
        · exact absurd (by unfold atR; rw [getR_none hk]; rfl) h0
  · obtain ⟨k, hk, rfl⟩ := List.mem_map.mp hp'
    obtain ⟨h1, h2⟩ := List.mem_filter.mp hk
    refine ⟨by simpa using h2, ?_⟩
    obtain ⟨n, hn', _⟩ := getR_mem (hp.mem_iff.mp h1)
    show getR r k = some (atR r k)
    unfold atR
    rw [hn']; rfl
  · rw [List.map_map]
    refine List.mem_map.mpr ⟨k, List.mem_filter.mpr ⟨hp.mem_iff.mpr ?_, by simp [hk]⟩, rfl⟩
    by_cases hm : k ∈ r.map (·.1)
    · exact hm
    · exact absurd (by unfold atR; rw [getR_none hm]; rfl) hk
theorem has_kept_row (e : Ev K mg) : Has P w K mg base 1 "kept_row" ["row"] spKeptRow := by
  obtain ⟨fd, F⟩ := e.F_f_kept_row
  refine ⟨_, fd, e.g_kept_row, ?_, F.kp, F.bindsN fun _ _ _ _ _ _ us hl => match us, hl with | [_], _ => rfl⟩
  refine F.okD sc_kept_row (fun vs H Q E h => ?_) (fun cdv A outer s H vs Q E hr h => ?_)
  · obtain ⟨v, r, rfl, _⟩ := h; rfl
  · obtain ⟨v, r, rfl, ⟨d, rfl, hd⟩, hn, hl, q⟩ := h
    refine ⟨_, pss_one (ps_ret (pe_callTy (call_dictP rfl) rfl e.b_dict boot_dict (pa_cons (pe_lc (own := [("key", 1)]) (g := gName 1) rfl sc_kept_row.nd (pi_list (pe_callB (call_sortedD rfl) rfl e.b_sorted boot_sorted (pa_cons (pv 0) pa_nil))) (blkOk_by (N := nKRow) (sc := defScope f_kept_row) (by decide +kernel))
      (fun _ _ _ _ _ => pg_name (i := 1) sc_kept_row.nd rfl (Or.inl rfl)) (fun _ _ _ _ _ => pts_one (pt_cmpR op_ne (pe_dget (hu_of hr) (pv 0) (pv 1) (fun _ _ => rfl)) pe_int (nomark _)))
      (fun _ _ _ _ _ => pe_tup (pa_cons (pv 1) (pa_cons (pe_dget (hu_of hr) (pv 0) (pv 1) (fun _ _ => rfl)) pa_nil)))) pa_nil))), ?_⟩
    refine ⟨_, rfl, d, rowKV r, r.map (·.1), rfl, hd, rowKV_keys r, by rw [List.length_map]; exact hl, fun ys p hp _ hpn => ?_⟩
    refine ⟨p, rfl, ⟨_, SqL.of upd_same⟩, fun D hD => ?_⟩
    have sp := same_upd (o := .lst (ys.map V.str)) hpn
    have hl2 := hp.length_eq
    rw [List.length_map] at hl2
    refine lc_src (src_list (bs := ys) (R := isS) mn_isS (Each.map V.str fun _ _ => rfl)) isP (fun k => (k, atR r k)) (fun k => decide (atR r k ≠ 0)) ⟨Same.refl _, SqL.of upd_same⟩ hD (small1000 (by omega)) ?_ ?_
    · intro j k y H3 acc Nx hk s3 _ ey hD3 hl3 _ kF kT
      obtain rfl : y = .str k := ey
      have hrl := mn_RowL _ _ _ _ (sp.trans s3) ⟨d, rfl, hd⟩
      obtain ⟨n, hn', _⟩ := getR_mem (hp.mem_iff.mp (List.mem_of_getElem? hk))
      have han : atR r k = n := by unfold atR; rw [hn']; rfl
      have hg := hrl.get k
      rw [hn'] at hg
      refine ⟨rfl, _, rfl, _, rfl, d, .int n, rfl, hg, rfl, _, rfl, ?_⟩
      by_cases h0 : V.int n = V.int 0
      · rw [decide_eq_true h0]
        refine (show if false = true then _ else _ from iteF ?_)
        exact kF (by rw [han]; injection h0 with h0; simp [h0]) _ (Same.refl _)
      · rw [decide_eq_false h0]
        refine (show if true = true then _ else _ from iteT ?_)
        refine ⟨_, rfl, _, rfl, _, rfl, d, .int n, rfl, hg, (by show 2 ≤ sizeLine; decide), fun T hT => ?_⟩
        have sT := same_upd (o := .tup [.str k, .int n]) hT
        have hTD : T ≠ D := fun z => by rw [z, hD3] at hT; exact nomatch hT
        refine ⟨acc, sT _ _ hD3, hl3, kT (by rw [han]; simp only [ne_eq, decide_eq_true_eq]; exact fun z => h0 (by rw [z])) _ _ sT fun H5 b5 => ⟨T, rfl, ?_⟩⟩
        rw [han]
        exact b5 _ _ hTD upd_same
    · intro H3 ys3 s3 hy he
      obtain ⟨ps, eps, hpp⟩ := isP_pairs (K := K) (he H3 fun _ _ _ z => z)
      have hk := kept_of hp hn
      refine ⟨D, ps, _, rfl, SqL.of (by rw [hy, eps]), hpp, fun p2 hp2 => ?_⟩
      rw [mergeR0 hk.1]
      exact q _ _ _ ((sp.trans s3).trans (same_upd hp2)) ⟨p2, rfl, upd_same⟩ hk
end NG

set_option Elab.async false
set_option linter.all false
set_option maxRecDepth 100000
set_option maxHeartbeats 400000
/-! want_table, Table -/
namespace NG
open PySem PySem.Spec PyProof.Rows L2 He
variable {P : Program} {w : World} {K : Fg} {mg : Str → Option Value} {base : Heap}
/-- behind a new instance -/
theorem made_same {H H' : Hp} {x dx C : Addr} (nx : H x = none) (nd : H dx = none) (b : But x (upd (upd H dx (.own x)) x (.ins C dx [])) H') : Same H H' := fun c o e => by
  have h1 := ne_of_none e nx
  have h2 := ne_of_none e nd
  exact b c o h1 (by rw [upd_ne h1, upd_ne h2]; exact e)
theorem made_mono {H : Hp} {x dx C : Addr} (nx : H x = none) (nd : H dx = none) : Same H (upd (upd H dx (.own x)) x (.ins C dx [])) := made_same nx nd fun _ _ _ e => e
/-- one field -/
def f1 (f : Str) (v : V) : List (Str × V) := putF f v []
theorem f1_look (f : Str) (v : V) : (f1 f v).lookup f = some v := by
  unfold f1
  rw [lookup_putF, if_pos rfl]
/-! ### Table -/
def TabA (K : Fg) (H : Hp) (a : Addr) (t : Row) : Prop := ∃ dx c, H a = some (.ins (ga K "Table") dx (f1 "own_counts" (.ref c))) ∧ H c = some (.dK (rowKV t))
def TabR (K : Fg) : Rl Row := fun H v t => ∃ a, v = .ref a ∧ TabA K H a t
/-- the same, its dict perhaps locked -/
def TabL (K : Fg) : Rl Row := fun H v t => ∃ a dx c, v = .ref a ∧ H a = some (.ins (ga K "Table") dx (f1 "own_counts" (.ref c))) ∧ RowL H (.ref c) t
theorem mn_Tab : Mn (TabR K) := fun _ _ _ _ s ⟨a, e, dx, c, h1, h2⟩ => ⟨a, e, dx, c, s _ _ h1, s _ _ h2⟩
theorem mn_TabL : Mn (TabL K) := fun _ _ _ _ s ⟨a, dx, c, e, h1, h2⟩ => ⟨a, dx, c, e, s _ _ h1, mn_RowL _ _ _ _ s h2⟩
theorem TabR.l {H : Hp} {v : V} {t : Row} (h : TabR K H v t) : TabL K H v t := let ⟨a, e, dx, c, h1, h2⟩ := h; ⟨a, dx, c, e, h1, c, rfl, .inl h2⟩
theorem TabL.lock {d : Addr} {od : Obj} {kvs : List (Key × V)} {H : Hp} {v : V} {t : Row} (l : TabL K H v t) (h : H d = some (.dK kvs)) : TabL K (upd H d (.frz od (.dK kvs))) v t := by
  obtain ⟨a, dx, c, e, h1, h2⟩ := l
  refine ⟨a, dx, c, e, ?_, h2.lock h⟩
  rw [upd_ne (fun z => by subst z; rw [h] at h1; exact nomatch h1)]
  exact h1
theorem sc_want_table : FnScope ["value"] ["value"] (defScope f_want_table) := ⟨rfl, rfl, rfl, by decide +kernel, rfl, by decide +kernel, by decide +kernel⟩
theorem has_want_table (e : Ev K mg) : Has P w K mg base 1 "want_table" ["value"] (spWant fun H v => ∃ t, TabL K H v t) := by
  obtain ⟨fd, F⟩ := e.F_f_want_table
  refine ⟨_, fd, e.g_want_table, ?_, F.kp, F.bindsN fun _ _ _ _ _ _ us hl => match us, hl with | [_], _ => rfl⟩
  refine F.okD sc_want_table (fun vs H Q E h => ?_) (fun cdv A outer s H vs Q E hr h => ?_)
  · obtain ⟨v, rfl, _⟩ := h; rfl
  · obtain ⟨v, rfl, ⟨t, a, dx, c, rfl, ha, _⟩, q⟩ := h
    refine ⟨_, pss_one (ps_if (pt_not (pt_val (pe_callB call_isi rfl e.b_isinstance boot_isinstance (pa_cons (pv 0) (pa_cons (pe_glob rfl e.g_Table (v := .ref (ga K "Table")) rfl) pa_nil))))) (pss_one ps_never) pss_nil), ?_⟩
    exact ⟨_, rfl, _, _, _, _, _, rfl, .own _, .base (e.ty_Table.ty ha), e.k_Table_Table, true, rfl, iteF q⟩
def RowOk (r : Row) : Prop := (r.map (·.1)).Nodup ∧ r.length < 64 ∧ ∀ p ∈ r, keyS p.1 = true
def spTInit (K : Fg) : Sp := fun vs H Q _ => ∃ (x dx : Addr) (v : V) (r : Row), vs = [.ref x, v] ∧ RowR H v r ∧ RowOk r ∧ H x = some (.ins (ga K "Table") dx []) ∧
  ∀ H' c r', But x H H' → H' x = some (.ins (ga K "Table") dx (f1 "own_counts" (.ref c))) → H' c = some (.dK (rowKV r')) → KeptOf r r' → Q .non H'
theorem sc_TInit : FnScope ["self", "counts"] ["self", "counts"] (defScope m_Table_init) := ⟨rfl, rfl, rfl, by decide +kernel, rfl, by decide +kernel, by decide +kernel⟩
theorem hasC_Table (e : Ev K mg) : HasC P w K mg base 3 "Table" ["self", "counts"] [] (spTInit K) := by
  obtain ⟨fd, F⟩ := e.F_m_Table_init
  obtain ⟨ds, hv, hb⟩ := FunD.binds1 (ps := ["self", "counts"]) F 2 1 (by simp) rfl (fun T kV doc pm an cdv ct us its h1 h2 => match us, its, h1, h2 with | [_, _], [_], _, _ => ⟨_, rfl, rfl⟩)
  obtain ⟨f1, d1, m1, G1, k1, b1⟩ := has_is_row (P := P) (w := w) (base := base) e
  obtain ⟨f2, d2, m2, G2, k2, b2⟩ := has_kept_row (P := P) (w := w) (base := base) e
  refine ⟨fd, ds, e.mk_Table, e.g_Table, ?_, hv, hb⟩
  refine F.okD sc_TInit (fun vs H Q E h => ?_) (fun cdv A outer s H vs Q E hr h => ?_)
  · obtain ⟨x, dx, v, r, rfl, _⟩ := h; rfl
  · obtain ⟨x, dx, v, r, rfl, ⟨d, rfl, hd⟩, ⟨hn, hl, hk⟩, hx, q⟩ := h
    have hr1 := hr.mono (show 1 ≤ 2 by decide)
    refine ⟨_, pss_cons (ps_if (PW.pt (pw_and (pt_cmpR op_notN (pv 1) pe_non (nomark _)) (pw_and1 (pt_not (pt_val (pe_call G1 hr rfl m1 k1 b1 .nil pass0 (pa_cons (pv 1) pa_nil))))))) (pss_one ps_never) pss_nil)
      (pss_one (ps_fld (pv 0) (pe_call G2 hr1 rfl m2 k2 b2 .nil pass0 (pa_cons (pe_ifExp (pt_cmpR op_isN (pv 1) pe_non (nomark _)) pe_dnewK (pv 1)) pa_nil)) rfl)), ?_⟩
    refine ⟨_, rfl, rfl, true, rfl, iteT ?_⟩
    refine ⟨_, rfl, .ref d, r, rfl, ⟨d, rfl, hd⟩, ⟨by omega, hk⟩, fun H1 s1 => ?_⟩
    refine ⟨true, rfl, iteF ?_⟩
    refine ⟨_, rfl, rfl, false, rfl, iteF ?_⟩
    refine ⟨_, rfl, .ref d, r, rfl, ⟨d, rfl, .inl (s1 _ _ hd)⟩, hn, hl, fun u H2 r' s2 hu hko => ?_⟩
    obtain ⟨c, rfl, hc⟩ := hu
    have hx2 := (s1.trans s2) _ _ hx
    have hcx : c ≠ x := fun z => by subst z; rw [hc] at hx2; exact nomatch hx2
    refine ⟨_, rfl, x, _, dx, _, rfl, hx2, e.cl_Table, e.n_Table_own_counts, (by decide), ?_⟩
    exact q _ c r' ((But.of_same (s1.trans s2)).trans But.upd) upd_same (by rw [upd_ne hcx]; exact hc) hko
/-! ### Table.at -/
theorem sc_TAt : FnScope ["self", "key"] ["self", "key"] (defScope m_Table_at) := ⟨rfl, rfl, rfl, by decide +kernel, rfl, by decide +kernel, by decide +kernel⟩
def spTAt (K : Fg) : Sp := fun vs H Q _ => ∃ (x : V) (k : Str) (t : Row), vs = [x, .str k] ∧ TabL K H x t ∧ keyS k = true ∧ ∀ H', Same H H' → Q (.int (atR t k)) H'
theorem hasM_at (e : Ev K mg) : HasM P w K mg base 2 "Table" "at" ["self", "key"] (spTAt K) := by
  obtain ⟨fd, F⟩ := e.F_m_Table_at
  refine ⟨fd, e.me_Table_at, ?_, F.bindsN fun _ _ _ _ _ _ us hl => match us, hl with | [_, _], _ => rfl⟩
  obtain ⟨f1, d1, m1, G1, k1, b1⟩ := has_is_key (P := P) (w := w) (base := base) e
  refine F.okD sc_TAt (fun vs H Q E h => ?_) (fun cdv A outer s H vs Q E hr h => ?_)
  · obtain ⟨x, k, t, rfl, _⟩ := h; rfl
  · obtain ⟨x, k, t, rfl, hx, hk, q⟩ := h
    refine ⟨_, pss_cons (ps_if (pt_not (pt_val (pe_call G1 hr rfl m1 k1 b1 .nil pass0 (pa_cons (pv 1) pa_nil)))) (pss_one ps_never) pss_nil)
      (pss_one (ps_ret (pe_dget2 (hu_of hr) (pe_fld (pv 0) rfl) (pv 1) pe_int ⟨rfl, rfl, rfl, rfl⟩))), ?_⟩
    refine ⟨_, rfl, .str k, rfl, .inl ⟨k, rfl, by have := keyS_len hk; omega, fun H1 s1 => ?_⟩⟩
    rw [hk]
    refine ⟨true, rfl, iteF ?_⟩
    obtain ⟨a, dx, c, rfl, ha, hc⟩ := mn_TabL _ _ _ _ s1 hx
    refine ⟨_, rfl, a, _, dx, _, _, rfl, ha, e.cl_Table, e.n_Table_own_counts, f1_look _ _, c, rfl, hc.isD, _, rfl, _, hc.get k, ?_⟩
    rw [getD_int]
    exact q _ s1
/-! ### Table.__eq__ -/
theorem sc_TEq : FnScope ["self", "other"] ["self", "other"] (defScope m_Table_eq) := ⟨rfl, rfl, rfl, by decide +kernel, rfl, by decide +kernel, by decide +kernel⟩
/-- two tables of one content -/
def AlikeR (r1 r2 : Row) : Prop := r1.length = r2.length ∧ ∀ p ∈ r1, getR r2 p.1 = some p.2
theorem kept_alike {r r1 r2 : Row} (h1 : KeptOf r r1) (h2 : KeptOf r r2) : AlikeR r1 r2 := by
  have hk : ∀ {a b : Row}, KeptOf r a → KeptOf r b → ∀ p ∈ a, getR b p.1 = some p.2 := fun {a b} ha hb p hp => by
    obtain ⟨n1, n2⟩ := ha.2.2.1 p hp
    have hat : atR r p.1 = p.2 := by unfold atR; rw [n2]; rfl
    obtain ⟨n, hn, _⟩ := getR_mem (hb.2.2.2 p.1 (by rw [hat]; exact n1))
    have := hb.2.1 p.1
    unfold atR at this hat
    rw [hn, hat] at this
    rw [hn, ← this]
    rfl
  have hl : ∀ {a b : Row}, KeptOf r a → KeptOf r b → a.length ≤ b.length := fun {a b} ha hb => by
    by_cases h : a.length ≤ b.length
    · exact h
    · obtain ⟨x, hx, hnx⟩ := pigeon (l := a.map (·.1)) (m := b.map (·.1)) ha.1 (by rw [List.length_map, List.length_map]; omega)
      obtain ⟨p, hp, rfl⟩ := List.mem_map.mp hx
      obtain ⟨n1, n2⟩ := ha.2.2.1 p hp
      exact absurd (hb.2.2.2 p.1 (by unfold atR; rw [n2]; exact n1)) hnx
  exact ⟨Nat.le_antisymm (hl h1 h2) (hl h2 h1), hk h1 h2⟩
theorem AlikeR.hits {r1 r2 : Row} (h : AlikeR r1 r2) : (rowKV r1).length = (rowKV r2).length ∧ ∀ p ∈ rowKV r1, valV (rowKV r2) p.1 = some p.2 ∧ flatB p.2 = true := by
  refine ⟨by rw [rowKV_length, rowKV_length]; exact h.1, fun p hp => ?_⟩
  obtain ⟨q, hq, rfl⟩ := List.mem_map.mp hp
  show valV (rowKV r2) (Sum.inr q.1) = _ ∧ _
  rw [valV_row, h.2 q hq]
  exact ⟨rfl, rfl⟩
def spTEq (K : Fg) : Sp := fun vs H Q _ => ∃ x y t u, vs = [x, y] ∧ TabR K H x t ∧ TabR K H y u ∧ AlikeR t u ∧ Q (.bl true) H
theorem hasM_TEq (e : Ev K mg) : HasM P w K mg base 1 "Table" "__eq__" ["self", "other"] (spTEq K) := by
  obtain ⟨fd, F⟩ := e.F_m_Table_eq
  refine ⟨fd, e.me_Table_eq, ?_, F.bindsN fun _ _ _ _ _ _ us hl => match us, hl with | [_, _], _ => rfl⟩
  refine F.okD sc_TEq (fun vs H Q E h => ?_) (fun cdv A outer s H vs Q E hr h => ?_)
  · obtain ⟨x, y, t, u, rfl, _⟩ := h; rfl
  · obtain ⟨x, y, t, u, rfl, ⟨a, rfl, dx, c, ha, hc⟩, ⟨b, rfl, dy, d, hb, hd⟩, hal, q⟩ := h
    refine ⟨_, pss_one (ps_ret (pe_and (pe_callB call_isi rfl e.b_isinstance boot_isinstance (pa_cons (pv 1) (pa_cons (pe_glob rfl e.g_Table (v := .ref (ga K "Table")) rfl) pa_nil)))
      (pe_one (pe_cmpR (op_eq_dictA (Nat.lt_of_succ_lt (hu_of hr))) (pe_fld (pv 0) rfl) (pe_fld (pv 1) rfl) (nomark _))))), ?_⟩
    refine ⟨_, rfl, _, _, _, _, _, rfl, .own _, .base (e.ty_Table.ty hb), e.k_Table_Table, true, rfl, iteT ?_⟩
    refine ⟨_, rfl, a, _, dx, _, _, rfl, ha, e.cl_Table, e.n_Table_own_counts, f1_look _ _, _, rfl, b, _, dy, _, _, rfl, hb, e.cl_Table, e.n_Table_own_counts, f1_look _ _, ?_⟩
    exact ⟨c, d, _, _, rfl, rfl, hc, hd, hal.hits.1, hal.hits.2, q⟩
end NG

set_option Elab.async false
set_option linter.all false
set_option maxRecDepth 100000
set_option maxHeartbeats 400000
/-! two-for comprehensions; many locks -/
namespace NG
open PySem PySem.Spec PyProof.Rows L2 He
def isV : Rl V := fun _ v u => v = u
theorem mn_isV : Mn isV := fun _ _ _ _ _ h => h
theorem src_imp {α β : Type} {J : It} {Hs : Hp → Prop} {R : Rl α} {S : Rl β} {bs : List α} (f : α → β) (h : Src J Hs R bs) (hr : ∀ H v a, R H v a → S H v (f a)) : Src J Hs S (bs.map f) where
  keep := h.keep
  go := fun i H hs hi => h.go i H hs (by simpa using hi)
  stop := fun H hs => by rw [List.length_map]; exact h.stop H hs
  yld := fun i H x H' hs hi y => by
    obtain ⟨b, hb, r, s⟩ := h.yld i H x H' hs (by simpa using hi) y
    exact ⟨f b, by rw [List.getElem?_map, hb]; rfl, hr _ _ _ r, s⟩
/-- [y for x in xs for y in ys(x)] -/
theorem lc2_vals {α : Type} {J : It} {Hs : Hp → Prop} {R : Rl α} {bs : List α} {i0 j0 : Nat} {wi1 : TI} {vs vs1 : List Nat} {σ : L2.St} {H1 : Hp} {D : Addr} {Qd : Hp → Prop}
    (S : Src J Hs R bs) (out : α → List V) (h1 : Hs H1) (nD : H1 D = none) (hz : (bs.flatMap out).length < sizeLine)
    (w0 : ∀ x, wipe ((wipe σ vs).set i0 (some x)) vs = wipe σ vs)
    (w1 : ∀ x y, wipe ((wipe ((wipe σ vs).set i0 (some x)) vs1).set j0 (some y)) vs1 = wipe ((wipe σ vs).set i0 (some x)) vs1)
    (l1 : ∀ x y, ((wipe ((wipe σ vs).set i0 (some x)) vs1).set j0 (some y))[j0]? = some (some y))
    (inner : ∀ b x H, b ∈ bs → Hs H → Same H1 H → R H x b → H D ≠ none → ∀ G : It → Hp → Prop, (∀ J1 Hs1 H', Same H H' → Src J1 Hs1 isV (out b) → Hs1 (del D H') → G J1 H') → wi1 ((wipe σ vs).set i0 (some x)) H G)
    (done : ∀ H, Same H1 H → H D = some (.lst (bs.flatMap out)) → Qd H) :
    ∃ W : Nat → Nat → Hp → Prop, (∃ m, W 0 m (upd H1 D (.lst []))) ∧ ∀ i m H, W i m H →
  (J.stop i H ∧ Qd H) ∨ (J.go i H ∧ ∃ Nx : Hp → Prop, (∀ H', Nx H' → ∃ m', m' < m ∧ W (i + 1) m' H') ∧ ∀ x H', J.yld i H x H' → gName i0 x (wipe σ vs) H' fun σ2 H2 => wipe σ2 vs = wipe σ vs ∧ tYes σ2 H2 fun b H3 =>
    if b = true then wi1 σ2 H3 fun J1 H4 => ∃ W1 : Nat → Nat → Hp → Prop, (∃ m, W1 0 m H4) ∧ ∀ j k H, W1 j k H →
      (J1.stop j H ∧ Nx H) ∨ (J1.go j H ∧ ∃ Nx1 : Hp → Prop, (∀ H', Nx1 H' → ∃ k', k' < k ∧ W1 (j + 1) k' H') ∧ ∀ x H', J1.yld j H x H' → gName j0 x (wipe σ2 vs1) H' fun σ3 H5 => wipe σ3 vs1 = wipe σ2 vs1 ∧ tYes σ3 H5 fun b H6 =>
        if b = true then (tVar j0) σ3 H6 fun y H7 => ∃ acc, H7 D = some (.lst acc) ∧ acc.length < sizeLine ∧ Nx1 (upd H7 D (.lst (acc ++ [y]))) else Nx1 H6)
    else Nx H3) := by
  have hd : ∀ H, Same H1 H → Hs H := fun H s => S.keep _ _ s h1
  have tot : ∀ i b, bs[i]? = some b → ((bs.take i).flatMap out ++ out b).length ≤ (bs.flatMap out).length := fun i b hb => by
    have e : bs = bs.take i ++ b :: bs.drop (i + 1) := by
      obtain ⟨hi, e⟩ := List.getElem?_eq_some_iff.mp hb
      rw [← e, ← List.drop_eq_getElem_cons hi, List.take_append_drop]
    have : (bs.flatMap out).length = ((bs.take i ++ b :: bs.drop (i + 1)).flatMap out).length := by rw [← e]
    rw [this, List.flatMap_append, List.flatMap_cons]
    simp only [List.length_append]
    omega
  refine ⟨fun i m H => m = bs.length - i ∧ i ≤ bs.length ∧ Same H1 H ∧ H D = some (.lst ((bs.take i).flatMap out)), ⟨bs.length, by simp, Nat.zero_le _, same_upd nD, upd_same⟩, ?_⟩
  rintro i m H ⟨rfl, hi, s, hy⟩
  by_cases hlt : i < bs.length
  · refine .inr ⟨S.go i H (hd H s) hlt, _, fun H' z => ⟨bs.length - (i + 1), by omega, z⟩, fun x H' yl => ?_⟩
    obtain ⟨b, hb, r, s'⟩ := S.yld i H x H' (hd H s) hlt yl
    have hyD : H' D = some (.lst ((bs.take i).flatMap out)) := s' _ _ hy
    refine ⟨w0 x, tYes_of ?_⟩
    refine inner b x H' (List.mem_of_getElem? hb) (S.keep _ _ s' (hd H s)) (s.trans s') r (by rw [hyD]; exact fun z => nomatch z) _ fun J1 Hs1 H4 s4 S1 hs1 => ?_
    have s14 := (s.trans s').trans s4
    refine ⟨fun j k H => k = (out b).length - j ∧ j ≤ (out b).length ∧ Same (del D H4) H ∧ H D = some (.lst ((bs.take i).flatMap out ++ (out b).take j)), ⟨(out b).length, by simp, Nat.zero_le _, del_same, by simpa using s4 _ _ hyD⟩, ?_⟩
    rintro j k H5 ⟨rfl, hj, s5, hy5⟩
    have hs5 := S1.keep _ _ s5 hs1
    have hlen := tot i b hb
    rw [List.length_append] at hlen
    by_cases hjl : j < (out b).length
    · refine .inr ⟨S1.go j H5 hs5 hjl, _, fun H' z => ⟨(out b).length - (j + 1), by omega, z⟩, fun y H6 yl6 => ?_⟩
      obtain ⟨u, hu, ru, s6⟩ := S1.yld j H5 y H6 hs5 hjl yl6
      obtain rfl : y = u := ru
      refine ⟨w1 x y, tYes_of ?_⟩
      refine ⟨y, l1 x y, _, s6 _ _ hy5, ?_, rfl, hjl, ?_, ?_⟩
      · rw [List.length_append, List.length_take]; omega
      · intro c o e
        have hc : c ≠ D := fun z => by subst z; unfold del at e; rw [if_pos rfl] at e; exact nomatch e
        rw [upd_ne hc]
        exact s6 _ _ (s5 _ _ e)
      · rw [upd_same, List.take_add_one, hu, ← List.append_assoc]
        rfl
    · have ej : j = (out b).length := by omega
      subst ej
      refine .inl ⟨S1.stop H5 hs5, rfl, hlt, fun c o e => ?_, ?_⟩
      · have hc : c ≠ D := ne_of_none e nD
        exact s5 _ _ (by rw [del_ne hc]; exact s14 _ _ e)
      · rw [hy5, List.take_length, List.take_add_one, hb, List.flatMap_append]
        simp
  · have ei : i = bs.length := by omega
    subst ei
    rw [List.take_length] at hy
    exact .inl ⟨S.stop H (hd H s), done H s hy⟩
/-! ### many locks -/
def lkN : Nat → TE → TE
  | 0, t => t
  | n + 1, t => fun σ H Q => lkN n t σ H Q ∨ tLockE (lkN n t) σ H Q
theorem pe_lkN {X : Cx} {e : Expr} {t : TE} (h : PE X e t) : ∀ n, PE X e (lkN n t)
  | 0 => h
  | n + 1 => ⟨fun pins s σ H Q I q => q.elim (fun q => (pe_lkN h n).run pins s σ H Q I q) fun q => (pe_lock (pe_lkN h n)).run pins s σ H Q I q⟩
def tLks (t : TE) : TE := fun σ H Q => ∃ n, lkN n t σ H Q
theorem pe_locks {X : Cx} {e : Expr} {t : TE} (h : PE X e t) : PE X e (tLks t) := ⟨fun pins s σ H Q I ⟨n, q⟩ => (pe_lkN h n).run pins s σ H Q I q⟩
/-- a locked row -/
def RowK : Rl Row := fun H v r => ∃ d od, v = .ref d ∧ H d = some (.frz od (.dK (rowKV r)))
theorem mn_RowK : Mn RowK := fun _ _ _ _ s ⟨d, od, e, h⟩ => ⟨d, od, e, s _ _ h⟩
/-- all but dicts stand -/
def Nd (H H' : Hp) : Prop := ∀ b o, (∀ kvs, o ≠ .dK kvs) → H b = some o → H' b = some o
theorem Nd.trans {H H1 H2 : Hp} (a : Nd H H1) (b : Nd H1 H2) : Nd H H2 := fun c o h e => b c o h (a c o h e)
theorem Nd.lock {H : Hp} {d : Addr} {od : Obj} {kvs : List (Key × V)} (h : H d = some (.dK kvs)) : Nd H (upd H d (.frz od (.dK kvs))) := fun b o hn e => by
  rw [upd_ne (fun z => by subst z; rw [h] at e; cases e; exact hn _ rfl)]
  exact e
theorem locks {t : TE} {σ : L2.St} {good : List V → Prop} : ∀ {vs : List V} {rows : List Row} {vs0 : List V} {rows0 : List Row} {H : Hp} {Q : VK}, Each RowL H vs rows → Each RowK H vs0 rows0 →
    (∀ HL Q', Nd H HL → Each RowK HL (vs0 ++ vs) (rows0 ++ rows) → (∀ D ys H', Same HL H' → H' D = some (.lst ys) → good ys → Q' (.ref D) H') → t σ HL Q') →
    (∀ D ys H'', Same H H'' → H'' D = some (.lst ys) → good ys → Q (.ref D) H'') → lkN vs.length t σ H Q
  | [], _, vs0, rows0, H, Q, .nil, h0, ht, hq => ht H Q (fun _ _ _ e => e) (by simpa using h0) hq
  | v :: vs, r :: rows, vs0, rows0, H, Q, .cons hv hr, h0, ht, hq => by
    obtain ⟨d, rfl, hd⟩ := hv
    rcases hd with hd | ⟨od, hd⟩
    · refine .inr ⟨d, _, hd, trivial, fun od => ?_⟩
      have h0' : Each RowK (upd H d (.frz od (.dK (rowKV r)))) (vs0 ++ [.ref d]) (rows0 ++ [r]) := by
        refine Each.append (h0.imp fun v r' _ ⟨c, oc, e, hc⟩ => ⟨c, oc, e, ?_⟩) (.cons ⟨d, od, rfl, upd_same⟩ .nil)
        rw [upd_ne (fun z => by subst z; rw [hd] at hc; exact nomatch hc)]
        exact hc
      refine locks (vs0 := vs0 ++ [.ref d]) (rows0 := rows0 ++ [r]) (hr.imp fun v r' _ h => h.lock hd) h0' (fun HL Q' nd hk hq' => ht HL Q' ((Nd.lock hd).trans nd) (by simpa using hk) hq') fun D ys H' s' hD hg => ?_
      refine ⟨s' _ _ upd_same, hq D ys _ (unlock_same hd s') ?_ hg⟩
      rw [upd_ne (fun z => by subst z; rw [s' _ _ upd_same] at hD; exact nomatch hD)]
      exact hD
    · refine .inl (locks (vs0 := vs0 ++ [.ref d]) (rows0 := rows0 ++ [r]) hr (h0.append (.cons ⟨d, od, rfl, hd⟩ .nil)) (fun HL Q' nd hk hq' => ht HL Q' nd (by simpa using hk) hq') hq)
end NG

set_option Elab.async false
set_option linter.all false
set_option maxRecDepth 100000
set_option maxHeartbeats 2000000
/-! sorted(set(xs)) of a list of texts -/
namespace NG
open PySem PySem.Spec PyProof.Rows L2
open PySem.W (EachIs)
def keyT (e : Int × Value) : Str := match e.2 with | .str k _ => k | _ => Str.empty
def GoodT (w : World) (e : Int × Value) : Prop := ∃ k tk, e.2 = Value.str k tk ∧ e.1 = hashStr w k
/-- the set of texts at a: its members are L's -/
def SetT (w : World) (h : Heap) (a : Addr) (L : List Str) (n : Nat) : Prop :=
  ∃ o es ep t, h.get? a = some o ∧ o.ExactSet ∧ o.data = .set es ep t ∧ (∀ e ∈ es.toList, GoodT w e) ∧ (es.toList.map keyT).Nodup ∧ (∀ k, k ∈ L ↔ k ∈ es.toList.map keyT) ∧
    es.size < scanBound ∧ t.fits es.size = true ∧ es.size = n ∧ Ris t.place.toList ∧ (w.params.followText "set-order" = true ∨ t.led = true)
section
variable {P : Program} {w : World} {h h' : Heap} {a : Addr} {L : List Str} {n : Nat}
theorem SetT.at (R : SetT w h a L n) (k : ∀ o, h.get? a = some o → h'.get? a = some o) : SetT w h' a L n := by
  obtain ⟨o, es, ep, t, ho, r⟩ := R
  exact ⟨o, es, ep, t, k o ho, r⟩
theorem SetT.congr {L' : List Str} (R : SetT w h a L n) (e : ∀ k, k ∈ L' ↔ k ∈ L) : SetT w h a L' n := by
  obtain ⟨o, es, ep, t, ho, hx, hd, g, nd, hm, r⟩ := R
  exact ⟨o, es, ep, t, ho, hx, hd, g, nd, fun k => (e k).trans (hm k), r⟩
theorem goodT_elems {l : List (Int × Value)} (g : ∀ e ∈ l, GoodT w e) : ElemsOf (PySem.strKind P w) l := fun e he => by
  obtain ⟨k, tk, h1, h2⟩ := g e he
  exact ⟨⟨k, by rw [h1]; exact strKind_is P w k tk, h2⟩, by rw [h1] <;> rfl⟩
theorem goodT_is {e : Int × Value} (g : GoodT w e) (k : Str) : (PySem.strKind P w).is k e.2 = true ↔ keyT e = k := by
  obtain ⟨k0, tk, h1, _⟩ := g
  unfold keyT
  rw [h1]
  constructor
  · intro z
    exact ((PySem.strKind P w).inj _ _ _ z (strKind_is P w k0 tk)).symm
  · intro z
    rw [← z]
    exact strKind_is P w k0 tk
theorem goodT_mem {l : List (Int × Value)} (g : ∀ e ∈ l, GoodT w e) (k : Str) : k ∈ l.map keyT ↔ ∃ e ∈ l, (PySem.strKind P w).is k e.2 = true := by
  rw [List.mem_map]
  constructor
  · rintro ⟨e, he, q⟩
    exact ⟨e, he, (goodT_is (g e he) k).2 q⟩
  · rintro ⟨e, he, q⟩
    exact ⟨e, he, (goodT_is (g e he) k).1 q⟩
theorem SetT.setOf (R : SetT w h a L n) : h.SetOf (PySem.strKind P w) a (fun k => decide (k ∈ L)) n := by
  obtain ⟨o, es, ep, t, ho, hx, hd, g, nd, hm, hb, hf, hn, _⟩ := R
  exact ⟨o, es, ep, t, ho, hx, hd, goodT_elems g, fun k => by rw [decide_eq_true_eq]; exact (hm k).trans (goodT_mem g k), hb, hf, hn⟩
end
section
variable {P : Program} {w : World} {A : Around} {E : Value → Shared → Prop} {s : Shared} {a : Addr} {L : List Str} {n : Nat}
theorem setT_tail {g : Bool → Sem Unit} (hg : ∀ (b : Bool) (s₁ : Shared) (Q' : Unit → Shared → Prop), Q' () s₁ → wpAny (model P w) A (g b) Q' E s₁)
    {o : Obj} {es : Array (Int × Value)} {ep : Nat} {t : SetTable} (ho : s.heap.get? a = some o) (hex : o.ExactSet) (hd : o.data = .set es ep t)
    {es1 : Array (Int × Value)} {t2 : SetTable} {L' : List Str} (g1 : ∀ e ∈ es1.toList, GoodT w e) (nd1 : (es1.toList.map keyT).Nodup) (m1 : ∀ k, k ∈ L' ↔ k ∈ es1.toList.map keyT)
    (hb1 : es1.size < scanBound) (hf2 : t2.fits es1.size = true) (hr : Ris t2.place.toList) (hl : w.params.followText "set-order" = true ∨ t2.led = true) {wasDummy : Bool} {R : Option Bool → Shared → Prop}
    (hR : ∀ h', Heap.SameBut a s.heap h' → SetT w h' a L' es1.size → R (some true) { s with heap := h' }) :
    wpAny (model P w) A (do
        storeSet a es1 t2
        if (!wasDummy && t2.tooFull) = true then do
            g (relayAll t2 es1 (SetTable.grown es1.size)).2.2
            storeSet a (relayAll t2 es1 (SetTable.grown es1.size)).1 (relayAll t2 es1 (SetTable.grown es1.size)).2.1
            pure (some true)
          else pure (some true)) R E s := by
  refine wpAny_bind (wpAny_storeSet_of ho hd ?_ (fits_of_scanBound hb1))
  have ho1 := store_at (es' := es1) (t' := t2) ho hd
  have sb1 := Heap.SameBut.update s.heap a (Obj.putSet es1 t2)
  split
  · have pm := relayAll_perm t2 es1 (SetTable.grown es1.size)
    have hf3 := relayAll_fits t2 es1 (SetTable.grown es1.size)
    have hr3 := relayAll_ris t2 es1 (SetTable.grown es1.size)
    have hl3 := relayAll_led t2 es1 (SetTable.grown es1.size)
    generalize relayAll t2 es1 (SetTable.grown es1.size) = Z at pm hf3 hr3 hl3 ⊢
    obtain ⟨es2, t3, gave⟩ := Z
    dsimp only at pm hf3 hr3 hl3 ⊢
    have hsz : es2.size = es1.size := by rw [← Array.length_toList, pm.length_eq, Array.length_toList]
    have hb2 : es2.size < scanBound := by rw [hsz]; exact hb1
    refine wpAny_bind (hg _ _ _ ?_)
    refine wpAny_bind (wpAny_storeSet_of ho1 rfl ?_ (fits_of_scanBound hb2))
    have ho2 := store_at (es' := es2) (t' := t3) ho1 rfl
    refine wpAny_pure (hR _ (sb1.trans (Heap.SameBut.update _ a _)) ?_)
    exact ⟨_, es2, _, t3, ho2, hex, rfl, fun e he => g1 e (pm.mem_iff.mp he), (pm.map keyT).nodup_iff.mpr nd1, fun k => (m1 k).trans (pm.map keyT).mem_iff.symm, hb2, hf3, hsz, hr3,
      hl.imp id fun z => by rw [hl3]; exact z⟩
  · exact wpAny_pure (hR _ sb1 ⟨_, es1, _, t2, ho1, hex, rfl, g1, nd1, m1, hb1, hf2, rfl, hr, hl⟩)
theorem setT_add {k : Str} {tk : Tok} {Q : Bool → Shared → Prop} (R : SetT w s.heap a L n) (room : n + 1 < scanBound)
    (hQ : ∀ h' m b, Heap.SameBut a s.heap h' → SetT w h' a (k :: L) m → m ≤ n + 1 → Q b { s with heap := h' }) :
    wpAny (model P w) A (setAddHashed a (.str k tk) ((PySem.strKind P w).hash k)) Q E s := by
  obtain ⟨o, es, ep, t, ho, hex, hd, g, nd, hm, hb, hf, hn, hr, hl⟩ := R
  have hkey : (PySem.strKind P w).is k (.str k tk) = true := strKind_is P w k tk
  have hsc : (Value.str k tk).scannable = true := rfl
  have hel : ElemsOf (PySem.strKind P w) es.toList := goodT_elems g
  unfold setAddHashed setAddHashedIn
  refine wpAny_holding (wpAny_bind (wpAny_setState_of ho hd hf ?_))
  dsimp only
  rw [byScan_of hsc hb hel]
  simp only [↓reduceIte]
  unfold setAddByScan
  refine wpAny_bind ?_
  refine wpAny_bind (wpAny_rule ?_)
  refine wpAny_bind (wpAny_setScan_of hkey ho hd hf hel ?_)
  cases hfi : List.findIdx? (fun e => (PySem.strKind P w).is k e.2) es.toList with
  | some j =>
    dsimp only
    obtain ⟨hj, pj, _⟩ := List.findIdx?_eq_some_iff_getElem.mp hfi
    have hSk : k ∈ L := (hm k).2 ((goodT_mem (P := P) (w := w) g k).2 ⟨es.toList[j], List.getElem_mem hj, pj⟩)
    refine wpAny_pure (wpAny_pure ?_)
    exact hQ s.heap n _ (Heap.SameBut.refl a s.heap) ⟨o, es, ep, t, ho, hex, hd, g, nd, fun i => by
      rw [List.mem_cons, ← hm i]
      exact ⟨fun z => z.elim (fun e => e ▸ hSk) id, .inr⟩, hb, hf, hn, hr, hl⟩ (Nat.le_succ _)
  | none =>
    dsimp only
    have hnk : k ∉ es.toList.map keyT := fun z => by
      obtain ⟨e, he, q⟩ := (goodT_mem (P := P) (w := w) g k).1 z
      have c := List.findIdx?_eq_none_iff.mp hfi e he
      rw [q] at c
      cases c
    have pm := layNew_perm t es ((PySem.strKind P w).hash k) (.str k tk)
    have hf1 := layNew_fits t es ((PySem.strKind P w).hash k) (.str k tk)
    have hr1 := layNew_ris t es ((PySem.strKind P w).hash k) (.str k tk) hr
    have hl1 := layNew_led t es ((PySem.strKind P w).hash k) (.str k tk)
    have hgw : ∀ (b : Bool) {s₁ : Shared} {Q' : Unit → Shared → Prop}, Q' () s₁ → wpAny (model P w) A (match b with | true => rule "set.scan.the-table-gave-way" | false => pure ()) Q' E s₁ :=
      fun b s₁ Q' q => by cases b <;> first | exact wpAny_pure q | exact wpAny_rule q
    generalize layNew t es ((PySem.strKind P w).hash k) (.str k tk) = Z at pm hf1 hr1 hl1 ⊢
    obtain ⟨es1, t1, wasDummy, gave⟩ := Z
    dsimp only at pm hf1 hr1 hl1 ⊢
    rw [Array.toList_push] at pm
    have pc : es1.toList.Perm (((PySem.strKind P w).hash k, Value.str k tk) :: es.toList) := pm.trans (List.perm_append_singleton _ _)
    have pk : (es1.toList.map keyT).Perm (k :: es.toList.map keyT) := pc.map keyT
    have g1 : ∀ e ∈ es1.toList, GoodT w e := fun e he => by
      rcases List.mem_cons.mp (pc.mem_iff.mp he) with z | z
      · rw [z]; exact ⟨k, tk, rfl, rfl⟩
      · exact g e z
    have nd1 : (es1.toList.map keyT).Nodup := pk.nodup_iff.mpr (List.nodup_cons.mpr ⟨hnk, nd⟩)
    have m1 : ∀ i, i ∈ (k :: L) ↔ i ∈ es1.toList.map keyT := fun i => by
      rw [List.mem_cons, hm i, pk.mem_iff, List.mem_cons]
    have hsz : es1.size = n + 1 := by rw [← Array.length_toList, pc.length_eq, List.length_cons, Array.length_toList, hn]
    have hb1 : es1.size < scanBound := by rw [hsz]; exact room
    have hled : w.params.followText "set-order" = true ∨ t1.led = true := hl.imp id fun z => by rw [hl1]; exact z
    have fin : ∀ h', Heap.SameBut a s.heap h' → SetT w h' a (k :: L) es1.size → Q true { s with heap := h' } := fun h' sb r => hQ h' _ _ sb r (by omega)
    refine wpAny_bind (hgw _ ?_)
    split
    · refine wpAny_bind ?_
      rw [hashByValue_scannable 8 hsc]
      refine wpAny_pure ?_
      refine setT_tail ?_ ho hex hd g1 nd1 m1 hb1 ?_ ?_ ?_ ?_
      · intro b s₁ Q' q; cases b <;> first | exact wpAny_pure q | exact wpAny_rule q
      · first | (split <;> first | exact hf1 | exact SetTable.fits_plain_off hf1) | exact hf1
      · first | (split <;> exact hr1) | exact hr1
      · first | (split <;> exact hled) | exact hled
      · intro h' sb r; dsimp only; exact wpAny_pure (fin h' sb r)
    · refine wpAny_bind (wpAny_pure ?_)
      simp only [↓reduceIte]
      refine setT_tail ?_ ho hex hd g1 nd1 m1 hb1 hf1 hr1 hled ?_
      · intro b s₁ Q' q; cases b <;> first | exact wpAny_pure q | exact wpAny_rule q
      · intro h' sb r; dsimp only; exact wpAny_pure (fin h' sb r)
end
end NG
namespace NG
open PySem PySem.Spec PyProof.Rows L2
open PySem.W (EachIs)
section
variable {P : Program} {w : World} {A : Around} {E : Value → Shared → Prop} {s : Shared}
theorem setT_new_at {h : Heap} {a : Addr} (ho : h.get? a = some { cls := .type "set", dict := none, data := .set #[] 0 (.fresh 0 0 (!w.params.followText "set-order")) }) : SetT w h a [] 0 :=
  ⟨_, #[], 0, _, ho, ⟨rfl, rfl, rfl⟩, rfl, (fun e he => by simp at he), (by simp), (fun k => by simp), (by decide), (by rfl), rfl, List.Pairwise.nil, by
    show _ ∨ (!w.params.followText "set-order") = true
    cases w.params.followText "set-order"
    · exact .inr rfl
    · exact .inl rfl⟩
theorem set_update_strs {I : Addr} {fp wr : List Addr} {G : Array GenState → Array GenState → Prop} {n : Nat} {Pv : Nat → Value → Prop} {St : Nat → Shared → Prop} {R : Result → Shared → Prop}
    (W : WalksS P w A.in1 I fp wr G n Pv St) (S : Addr) (hSf : S ∉ fp) (ns : List Str) (hn : n = ns.length) (hb : ns.length + 1 < scanBound) (hval : ∀ i v, Pv i v → ∃ k t, ns[i]? = some k ∧ v = .str k t) :
    ∀ (k i : Nat) (s : Shared), n - i = k → i ≤ n → St i s → (∃ c, c ≤ i ∧ SetT w s.heap S (ns.take i) c) →
      (∀ s' c, Moved (S :: wr) G s s' → c ≤ n → SetT w s'.heap S ns c → R (.ok (.ret .none)) s') →
      codeAny (model P w) A (.builtin "set.update.loop" ⟨[.ref S, .ref I], []⟩) R s := by
  have hSw : S ∉ wr := fun h => hSf (W.sub _ h)
  have hsub : ∀ b ∈ wr, b ∈ S :: wr := fun b hb => List.mem_cons_of_mem _ hb
  intro k
  induction k with
  | zero =>
    intro i s hk' hi hst ⟨c, hc, hS⟩ hR
    have hin : i = n := by omega
    subst hin
    refine codeAny_builtin F.entry_set_update_loop ?_
    rw [Around.under_plainId F.plain_set_update_loop _]
    show wpAny _ A.in1 (pyNext (.ref I) >>= _) _ _ s
    refine wpAny_bind (W.done s _ _ hst fun s' hm => ?_)
    show wpAny _ A.in1 (ret Value.none) _ _ s'
    have e : ns.take i = ns := List.take_of_length_le (by omega)
    rw [e] at hS
    exact wpAny_pure (hR s' c (hm.mono hsub) hc (hS.at fun o e => hm.heap S o hSw e))
  | succ k ih =>
    intro i s hk' hi hst ⟨c, hc, hS⟩ hR
    have hlt : i < n := by omega
    refine codeAny_builtin F.entry_set_update_loop ?_
    rw [Around.under_plainId F.plain_set_update_loop _]
    show wpAny _ A.in1 (pyNext (.ref I) >>= _) _ _ s
    refine wpAny_bind (W.item i s _ _ hlt hst fun v s' hP hst' hm => ?_)
    obtain ⟨z, t, hz, rfl⟩ := hval i v hP
    have hS' : SetT w s'.heap S (ns.take i) c := hS.at fun o e => hm.heap S o hSw e
    show wpAny _ A.in1 (holding [Value.str z t] (setAdd S (.str z t)) >>= _) _ _ s'
    refine wpAny_bind (wpAny_holding ?_)
    unfold setAdd
    refine wpAny_holding ?_
    refine wpAny_bind ((PySem.strKind P w).pyHash (k := z) (strKind_is _ _ _ _) ?_)
    refine setT_add (s := { s' with toks := s'.toks + 1 }) hS' (by omega) fun h' m b0 hsb hS2 hm2 => ?_
    have hS3 : SetT w h' S (ns.take (i + 1)) m := hS2.congr fun j => by
      rw [List.take_add_one, hz]
      simp only [List.mem_append, Option.toList, List.mem_singleton, List.mem_cons, List.not_mem_nil, or_false]
      exact Or.comm
    refine wpAny_pure ⟨plainId_quiet F.plain_set_update_loop _, ih (i + 1) _ (by omega) hlt (W.frame _ s' _ _ hst' (Nat.le_succ _) fun b hb o e => ?_) ⟨_, by omega, hS3⟩ fun s'' c2 hm'' hc'' hS'' => ?_⟩
    · rw [hsb.2 b (fun h : b = S => hSf (by rw [← h]; exact hb))]; exact e
    · refine hR s'' c2 (Moved.trans W.gtrans ((hm.mono hsub).then_heap (Nat.le_succ _) fun b o hb e => ?_) hm'') hc'' hS''
      rw [hsb.2 b (fun h : b = S => hb (by rw [h]; exact List.mem_cons_self))]; exact e
set_option maxHeartbeats 3200000 in
theorem call_setT {l : Addr} {items : Array Value} (ns : List Str) {Q : Value → Shared → Prop} (hh : A.handled = none) (hl : s.heap.IsList l items) (hit : StrsAre items.toList ns) (hb : ns.length + 1 < scanBound)
    (h : ∀ (h' : Heap) (tk c : Nat), SetT w h' s.heap.objs.size ns c → c ≤ ns.length → (∀ b o, s.heap.get? b = some o → h'.get? b = some o) → Q (.ref s.heap.objs.size) { s with heap := h', toks := tk }) :
    wpAny (model P w) A (call (.type "set") [.ref l]) Q E s := by
  have hisz : items.size = ns.length := by rw [← StrsAre.len_eq hit, Array.length_toList]
  obtain ⟨c, tl, hmro⟩ := F.called_set.mro
  have hmade := F.called_set.made
  have hsub := F.called_set.sub
  refine wpAny_call (codeAny_of_tree ?_)
  show wpAny _ _ (callAny (.type "set") _) _ _ _
  refine wpAny_pure ⟨Code.quiet_builtin _ (by decide +kernel), codeAny_builtin F.entry_type_call ?_⟩
  rw [Around.under_plain (weight_type_call_type "set" [.ref l] []) rfl]
  have h1 := F.called_set.notType
  have h2 := F.called_set.canCreate
  have hct := F.typeCall_set_1 (.ref l)
  repeat (any_goals (first | assumption | wp_step))

  refine codeAny_mono (code_set_led1 (.ref l) (E := E) (Q₁ := fun obj s₁ => obj = .ref s.heap.objs.size ∧ s₁ = { s with heap := s.heap.push { cls := .type "set", dict := none, data := .set #[] 0 (.fresh 0 0 (!w.params.followText "set-order")) } }) ⟨rfl, rfl⟩) fun r s₁ hr => ?_
  cases r with
  | error e => exact hr
  | ok fl =>
    cases fl with
    | ret obj =>
      obtain ⟨rfl, rfl⟩ := hr
      have hS : (s.heap.push { cls := .type "set", dict := none, data := .set #[] 0 (.fresh 0 0 (!w.params.followText "set-order")) }).get? s.heap.objs.size = some { cls := .type "set", dict := none, data := .set #[] 0 (.fresh 0 0 (!w.params.followText "set-order")) } := Heap.get?_push_size _ rfl
      have hT : Shared.TypeIs { s with heap := s.heap.push { cls := .type "set", dict := none, data := .set #[] 0 (.fresh 0 0 (!w.params.followText "set-order")) } } (.ref s.heap.objs.size) "set" := ⟨_, hS, rfl⟩
      have hli := F.called_set.init.lookup
      have hbi := F.called_set.init.bind (.ref s.heap.objs.size)
      repeat (any_goals (first | assumption | wp_step))

      refine codeAny_mono (codeAny_call_builtin (R := wants (fun r s₂ => r = .none ∧ ∃ h' tk c, s₂ = { s with heap := h', toks := tk } ∧ SetT w h' s.heap.objs.size ns c ∧ c ≤ ns.length ∧
          (∀ b o, s.heap.get? b = some o → h'.get? b = some o)) E) F.called_set.init.plain F.entry_set_init (check_set_init_1 hT ?_)) fun r₂ s₂ hr₂ => ?_
      · obtain ⟨ol, hol, hcl, nl, hdl⟩ := hl
        obtain ⟨ocls, odict, odata, oslots⟩ := ol
        simp only at hcl hdl
        subst hcl; subst hdl
        have hol' : (s.heap.push { cls := .type "set", dict := none, data := .set #[] 0 (.fresh 0 0 (!w.params.followText "set-order")) }).get? l = some { cls := .type "list", dict := odict, data := .seq items nl, slots := oslots } := Heap.get?_push_of_some _ hol
        have hsls := F.sub_list_set
        have hslf := F.sub_list_frozenset
        have hne : (Value.type "list" == Value.type "dict") = false := by decide
        have hl1 : (s.heap.push { cls := .type "set", dict := none, data := .set #[] 0 (.fresh 0 0 (!w.params.followText "set-order")) }).IsList l items := ⟨_, hol', rfl, nl, rfl⟩
        unfold Builtin.«set.__init__» noKeywords Builtin.Frozenset.updateFrom
        generalize hPI : pyIter = PI
        wp_walk
        subst hPI

        refine wpAny_pyIter_list hl1 ?_
        refine wpAny_bind (wpAny_runValue ?_)
        have hlS : l < s.heap.objs.size := Heap.lt_size hol
        have hh3 : A.in1.in1.in1.handled = none := by simp [hh]
        have hneI : l ≠ (s.heap.push { cls := .type "set", dict := none, data := .set #[] 0 (.fresh 0 0 (!w.params.followText "set-order")) }).objs.size := by
          rw [Heap.size_push]; exact Nat.ne_of_lt (Nat.lt_succ_of_lt hlS)
        have hSf : s.heap.objs.size ∉ [(s.heap.push { cls := .type "set", dict := none, data := .set #[] 0 (.fresh 0 0 (!w.params.followText "set-order")) }).objs.size, l] := by
          rw [Heap.size_push]; simp only [List.mem_cons, List.mem_singleton, List.not_mem_nil, or_false, not_or]
          exact ⟨Nat.ne_of_lt (Nat.lt_succ_self _), Nat.ne_of_gt hlS⟩
        have hval : ∀ (i : Nat) (v : Value), items[i]? = some v → ∃ k t, ns[i]? = some k ∧ v = .str k t := fun i v hv => by
          have hi : i < ns.length := by rw [← hisz]; exact (Array.getElem?_eq_some_iff.mp hv).1
          obtain ⟨t, e⟩ := SS.strs_at hit i v (by rw [Array.getElem?_toList]; exact hv)
          refine ⟨ns[i], t, List.getElem?_eq_getElem hi, ?_⟩
          rw [e, List.getD_eq_getElem?_getD, List.getElem?_eq_getElem hi] <;> rfl
        refine set_update_strs ((Walks.list hh3 _ l hneI items).toS) s.heap.objs.size
          hSf ns hisz hb hval (items.size - 0) 0 _ (by omega) (Nat.zero_le _)
          ⟨⟨_, Heap.get?_push_size _ rfl, rfl, rfl⟩, (hl1.push _)⟩ ?hS0 ?hR
        case hS0 =>
          have hget : ((s.heap.push { cls := .type "set", dict := none, data := .set #[] 0 (.fresh 0 0 (!w.params.followText "set-order")) }).push { cls := .type "list_iterator", data := .fields #[.ref l, .int 0 0] }).get? s.heap.objs.size
              = some { cls := .type "set", dict := none, data := .set #[] 0 (.fresh 0 0 (!w.params.followText "set-order")) } := Heap.get?_push_of_some _ hS
          exact ⟨0, Nat.le_refl 0, setT_new_at hget⟩
        case hR =>
          intro s' c' hm hc' hS'
          obtain ⟨h', g2, d', tk', os'⟩ := s'
          have eg : g2 = s.gens := hm.gens
          have ed : d' = s.drawn := hm.drawn
          have eo : os' = s.os := hm.os
          subst eg; subst ed; subst eo
          show wpAny _ _ _ _ _ _
          refine wpAny_pure ?_
          show wpAny _ _ (ret Value.none) _ _ _
          rw [hisz] at hc'
          refine wpAny_pure ⟨rfl, h', tk', c', rfl, hS', hc', fun b o e => ?_⟩
          have hb0 : b < s.heap.objs.size := Heap.lt_size e
          have hb1 : b ≠ s.heap.objs.size := Nat.ne_of_lt hb0
          have hb2 : b ≠ (s.heap.push { cls := .type "set", dict := none, data := .set #[] 0 (.fresh 0 0 (!w.params.followText "set-order")) }).objs.size := by
            rw [Heap.size_push]; exact Nat.ne_of_lt (Nat.lt_succ_of_lt hb0)
          exact hm.heap b o (by simp only [List.mem_cons, List.mem_singleton, List.not_mem_nil, or_false, not_or]; exact ⟨hb1, hb2⟩) (Heap.get?_push_of_some _ (Heap.get?_push_of_some _ e))

      · cases r₂ with
        | error e => exact hr₂
        | ok fl₂ =>
          cases fl₂ with
          | ret r =>
            obtain ⟨rfl, h', tk, c', rfl, hS', hc', hk'⟩ := hr₂
            repeat (any_goals (first | assumption | wp_step))
            exact h _ _ _ hS' hc' hk'
          | _ => exact hr₂.elim
    | _ => exact hr.elim
end
end NG

namespace NG
open PySem PySem.Spec PyProof.Rows L2
open PySem.W (EachIs)
section
variable {P : Program} {w : World} {A : Around} {E : Value → Shared → Prop} {s : Shared} {a : Addr} {L : List Str} {n : Nat}
theorem strs_of : ∀ (l : List Value), (∀ v ∈ l, ∃ k tk, v = Value.str k tk) → ∃ xs : List Str, EachIs (fun v x => ∃ t, v = Value.str x t) l xs
  | [], _ => ⟨[], .nil⟩
  | v :: l, h => by
    obtain ⟨k, tk, rfl⟩ := h v List.mem_cons_self
    obtain ⟨xs, hx⟩ := strs_of l fun u hu => h u (List.mem_cons_of_mem _ hu)
    exact ⟨k :: xs, .cons ⟨tk, rfl⟩ hx⟩
theorem each_vals : ∀ {l : List Value} {xs : List Str}, EachIs (fun v x => ∃ t, v = Value.str x t) l xs → Vals (xs.map V.str) l
  | _, _, .nil => .nil
  | _, _, .cons h t => .cons h (each_vals t)
theorem each_keys {f : Value → Str} (hf : ∀ k t, f (.str k t) = k) : ∀ {l : List Value} {xs : List Str}, EachIs (fun v x => ∃ t, v = Value.str x t) l xs → l.map f = xs
  | _, _, .nil => rfl
  | _, _, .cons ⟨t, e⟩ r => by rw [List.map_cons, e, hf, each_keys hf r]
def strV (v : Value) : Str := match v with | .str k _ => k | _ => Str.empty
theorem sorted_setT {Q : Value → Shared → Prop} (R : SetT w s.heap a L n) (hh : A.handled = none) (h64 : n ≤ 4096) (hu : A.units + 64 < cLine)
    (hQ : ∀ s' p (out : Array Value) (c : Nat) (ns : List Str), (∀ b o, s.heap.get? b = some o → s'.heap.get? b = some o) → s'.gens = s.gens → s'.os = s.os → s.heap.objs.size ≤ p →
      s'.heap.get? p = some (seqObj "list" out c) → Vals (ns.map V.str) out.toList → ns.Nodup → (∀ k, k ∈ ns ↔ k ∈ L) → ns.length = n → Q (.ref p) s') :
    wpAny (model P w) A (call (.builtin "sorted") [.ref a]) Q E s := by
  obtain ⟨o, es, ep, t, ho, hex, hd, g, nd, hm, hb, hf, hn, hr, hl⟩ := R
  refine Calls.call_function_entry kind_sorted plain_sorted entry_sorted (args_sorted1 _) ?_
  unfold Builtin.«sorted»
  refine wpAny_bind (m := checkCount "sorted" 1 1 _) (wpAny_pure ?_)
  refine wpAny_bind (collect_set (A := A.in1) hh ⟨o, ho, hex.1, hd⟩ hf hb hr hl fun s1 vs k1 hz g1 o1 pm => ?_)
  have hvl : vs.length = n := by rw [pm.length_eq, List.length_map, Array.length_toList]; exact hn
  obtain ⟨xs, hx⟩ := strs_of vs fun v hv => by
    obtain ⟨e, he, q⟩ := List.mem_map.mp (pm.mem_iff.mp hv)
    obtain ⟨k, tk, h1, _⟩ := g e he
    exact ⟨k, tk, by rw [← q]; exact h1⟩
  have pk : xs.Perm (es.toList.map keyT) := by
    have q := pm.map strV
    rw [each_keys (f := strV) (fun _ _ => rfl) hx, List.map_map] at q
    exact q
  have hxl : xs.length = n := by rw [← hx.length, hvl]
  refine wpAny_bind (wpAny_newList ?_ (by rw [hvl, sizeLine_eq]; omega))
  have hoL : (s1.heap.push (seqObj "list" vs.toArray 0)).get? s1.heap.objs.size = some (seqObj "list" vs.toArray 0) := Heap.get?_push_size _ rfl
  refine wpAny_bind (wpAny_holding (PySem.W.list_sort_data (R := fun v x => ∃ t, v = Value.str x t) (enc := PyData.str) hoL hx (hx.mono fun v x ⟨t, e⟩ => ⟨[], by rw [e]; exact .str x t, by simp⟩) (PySem.W.AllAlike.of fun _ _ => by simp [PySem.W.alike]) (PySem.W.Sortable.others fun x => ⟨by simp, by simp⟩)
    (by rw [hxl, sizeLine_eq]; omega) (fun x _ => ?_) fun out hol eo => ?_))
  · have e1 : (PyData.str x).depth = 0 := by simp [PyData.depth]
    rw [e1]
    show A.units + 1 + 1 + 0 < cLine
    omega
  · obtain ⟨c, hc⟩ := sortedHeap_at (vs := vs) (out := out.toArray) hoL
    have pn := List.mergeSort_perm xs (PySem.W.dataLe false PyData.str)
    refine wpAny_pure ⟨_, rfl, hQ _ s1.heap.objs.size out.toArray c (xs.mergeSort (PySem.W.dataLe false PyData.str)) (fun b u e => ?_) g1 o1 hz hc (by simpa using each_vals eo) ((pn.trans pk).nodup_iff.mpr nd) (fun k => by rw [(pn.trans pk).mem_iff, ← hm k]) (by rw [pn.length_eq, hxl])⟩
    have q := k1 b u e
    have hlt := Heap.lt_size q
    show (sortedHeap (s1.heap.push (seqObj "list" vs.toArray 0)) s1.heap.objs.size vs out.toArray).get? b = some u
    rw [sortedHeap_old (Nat.ne_of_lt hlt) (by rw [size_push']; exact Nat.lt_succ_of_lt hlt)]
    exact Heap.get?_push_of_some _ q
end
/-! ### the rule -/
/-- the set of texts at a -/
def SetTO (w : World) (a : Addr) (L : List Str) (n : Nat) : HO := .ext fun h => SetT w h a L n
section
variable {X : Cx}
/-- set(xs) -/
theorem cr_setT (hc : X.calm = true) : CallR X (.type "set") (fun vs H Q => ∃ (a : Addr) (xs : List Str), vs = [.ref a] ∧ SqL X.K H a (xs.map V.str) ∧ xs.length ≤ 4000 ∧ ∀ p n, n ≤ xs.length → H p = none → Q (.ref p) (upd H p (SetTO X.w p xs n))) := by
  intro pins s σ H vs us Q I r h
  obtain ⟨a, xs, rfl, hs, hz, q⟩ := h
  rw [Vals.ref1 r]
  obtain ⟨its, rv, hl, _⟩ := I.list hs
  refine call_setT xs (I.ok.hd hc) hl.isList (by simpa using strsAre_of rv) (by unfold scanBound; omega) fun h' tk c R hcn hk => ?_
  have hn : H s.heap.objs.size = none := I.hok.fresh (Nat.le_refl _)
  refine ⟨.ref _, upd H s.heap.objs.size (SetTO X.w s.heap.objs.size xs c), I.laid (t' := tk) hk (Nat.le_refl _) ?_, rfl, q _ c hcn hn⟩
  have R2 := R
  obtain ⟨o, _, _, _, ho, _⟩ := R2
  exact ⟨R, ⟨o, ho⟩, fun h1 h2 p k => SetT.at p k⟩
/-- sorted(that set) -/
theorem cr_sortedT (hc : X.calm = true) (hu : X.A.units + 64 < cLine) : CallR X (.builtin "sorted") (fun vs H Q => ∃ (a : Addr) (L : List Str) (n : Nat), vs = [.ref a] ∧ H a = some (SetTO X.w a L n) ∧ n ≤ 4000 ∧
    ∀ (ns : List Str) (p : Addr), ns.Nodup → (∀ k, k ∈ ns ↔ k ∈ L) → H p = none → Q (.ref p) (upd H p (.lst (ns.map V.str)))) := by
  intro pins s σ H vs us Q I r h
  obtain ⟨a, L, n, rfl, ha, h64, q⟩ := h
  have R : SetT X.w s.heap a L n := (I.hok a _ ha).1
  rw [Vals.ref1 r]
  refine sorted_setT R (I.ok.hd hc) (by omega) hu fun s' p out c ns k g o hp hg hi hs hm hl => ?_
  have hlen : (ns.map V.str).length ≤ sizeLine := by rw [List.length_map, hl, sizeLine_eq]; omega
  have hn : H p = none := I.hok.fresh hp
  have J : Inv X pins σ (upd H p (.lst (ns.map V.str))) { s with heap := s'.heap, gens := s'.gens, drawn := s'.drawn, toks := s'.toks } :=
    I.call (ch := []) (Un.laid k hp hn) (I.hok.laid k hp ⟨hlen, out.toList, c, hi, hg⟩) (by rw [g]; exact I.bare) (fun _ z => nomatch z)
  have e : s' = { s with heap := s'.heap, gens := s'.gens, drawn := s'.drawn, toks := s'.toks } := by
    cases s'
    cases s
    cases o
    rfl
  rw [e]
  exact ⟨.ref p, _, J, rfl, q ns p hs hm hn⟩
end
end NG

set_option Elab.async false
set_option linter.all false
set_option maxRecDepth 100000
set_option maxHeartbeats 400000
/-! Note -/
namespace NG
open PySem PySem.Spec PyProof.Rows L2 He
variable {P : Program} {w : World} {K : Fg} {mg : Str → Option Value} {base : Heap}
theorem none_of {H H' : Hp} {p : Addr} (s : Same H H') (h : H' p = none) : H p = none := by
  cases e : H p with
  | none => rfl
  | some o => have := s _ _ e; rw [h] at this; exact nomatch this
theorem f1_no {f m : Str} {v : V} (h : ¬ m = f) : (f1 f v).lookup m = none := by
  unfold f1
  rw [lookup_putF, if_neg h]
  rfl
/-- a list's items, exactly -/
def LsX {α : Type} (R : Rl α) (H : Hp) (l : Addr) (as : List α) : Prop := ∃ vs, H l = some (.lst vs) ∧ Each R H vs as
theorem LsX.mono {α : Type} {R : Rl α} {H H' : Hp} {l : Addr} {as : List α} (hm : Mn R) (s : Same H H') (h : LsX R H l as) : LsX R H' l as := let ⟨vs, e, t⟩ := h; ⟨vs, s _ _ e, t.mono hm s⟩
def NoteA (K : Fg) (H : Hp) (a : Addr) (n : List Row) : Prop := ∃ dx l, H a = some (.ins (ga K "Note") dx (f1 "own_sums" (.ref l))) ∧ LsX RowR H l n
def NoteR (K : Fg) : Rl (List Row) := fun H v n => ∃ a, v = .ref a ∧ NoteA K H a n
theorem mn_Note : Mn (NoteR K) := fun _ _ _ _ s ⟨a, e, dx, l, h, t⟩ => ⟨a, e, dx, l, s _ _ h, t.mono mn_Row s⟩
theorem each_ex {α β : Type} {R : Rl β} {G : α → β → Prop} {H : Hp} : ∀ {vs : List V} {as : List α}, Each (fun H v a => ∃ b, R H v b ∧ G a b) H vs as → ∃ bs, Each R H vs bs ∧ Paired G as bs
  | _, _, .nil => ⟨[], .nil, .nil⟩
  | _, _, .cons ⟨b, r, g⟩ t => let ⟨bs, h1, h2⟩ := each_ex t; ⟨b :: bs, .cons r h1, .cons g h2⟩
abbrev nNInit : List Str := ["self", "sums", "position", "row"]
theorem sc_NInit : FnScope nNInit ["self", "sums"] (defScope m_Note_init) := ⟨rfl, rfl, rfl, by decide +kernel, rfl, by decide +kernel, by decide +kernel⟩
def spNInit (K : Fg) : Sp := fun vs H Q _ => ∃ (x dx : Addr) (v : V) (rows : List Row), vs = [.ref x, v] ∧ RowsR K H v rows ∧ (∀ r ∈ rows, RowOk r) ∧ rows.length ≤ 8 ∧ H x = some (.ins (ga K "Note") dx []) ∧
  ∀ H' l n, H l = none → But x H H' → H' x = some (.ins (ga K "Note") dx (f1 "own_sums" (.ref l))) → LsX RowR H' l n → Paired KeptOf rows n → Q .non H'
theorem row_but {H H' : Hp} {d : Addr} {xs : List V} {v : V} {r : Row} (h : RowR H v r) (hd : H d = some (.lst xs)) (b : But d H H') : RowR H' v r := by
  obtain ⟨c, e, hc⟩ := h
  exact ⟨c, e, b _ _ (fun z => by subst z; rw [hc] at hd; exact nomatch hd) hc⟩
theorem row_butI {H H' : Hp} {d C dx : Addr} {fs : List (Str × V)} {v : V} {r : Row} (h : RowR H v r) (hd : H d = some (.ins C dx fs)) (b : But d H H') : RowR H' v r := by
  obtain ⟨c, e, hc⟩ := h
  exact ⟨c, e, b _ _ (fun z => by subst z; rw [hc] at hd; exact nomatch hd) hc⟩
theorem hasC_Note (e : Ev K mg) : HasC P w K mg base 3 "Note" ["self", "sums"] [] (spNInit K) := by
  obtain ⟨fd, F⟩ := e.F_m_Note_init
  obtain ⟨f1', d1, m1, G1, k1, b1⟩ := has_is_list (P := P) (w := w) (base := base) e
  obtain ⟨f2, d2, m2, G2, k2, b2⟩ := has_is_row (P := P) (w := w) (base := base) e
  obtain ⟨f3, d3, m3, G3, k3, b3⟩ := has_kept_row (P := P) (w := w) (base := base) e
  obtain ⟨t4, g4⟩ := e.MOST_SUMS
  refine ⟨fd, [], e.mk_Note, e.g_Note, ?_, .nil, F.bindsN fun _ _ _ _ _ _ us hl => match us, hl with | [_, _], _ => rfl⟩
  refine F.okD sc_NInit (fun vs H Q E h => ?_) (fun cdv A outer s H vs Q E hr h => ?_)
  · obtain ⟨x, dx, v, r, rfl, _⟩ := h; rfl
  · obtain ⟨x, dx, v, rows, rfl, ⟨a, vs, rfl, hv, hrs⟩, hok, hl, hx, q⟩ := h
    have hr1 := hr.mono (show 1 ≤ 2 by decide)
    refine ⟨_, pss_cons (ps_if (pt_not (pt_val (pe_call G1 hr1 rfl m1 k1 b1 .nil pass0 (pa_cons (pv 1) pa_nil)))) (pss_one ps_never) pss_nil)
      (pss_cons (ps_for (g := gTup K 2 _) PassesOwn.never rfl (pi_enum rfl e.b_enumerate (pa_cons (pv 1) pa_nil)) (pg_tup rfl (pgs_cons (pg_name (i := 2) sc_NInit.nd rfl (Or.inl rfl)) (pgs_cons (pg_name (i := 3) sc_NInit.nd rfl (Or.inl rfl)) pgs_nil)))
        (pss_one (ps_if (pt_not (pt_val (pe_call G2 hr rfl m2 k2 b2 .nil pass0 (pa_cons (pv 3) pa_nil)))) (pss_one ps_never) pss_nil)))
      (pss_cons (ps_if (pt_cmpR op_gt (pe_callB call_len_seq rfl e.b_len boot_len (pa_cons (pv 1) pa_nil)) (pe_glob rfl g4 (v := .int 8) ⟨_, rfl⟩) (nomark _)) (pss_one ps_never) pss_nil)
      (pss_one (ps_fld (pv 0) (pe_lc (own := [("row", 3)]) (g := gName 3) (tt := tYes) rfl sc_NInit.nd (pi_list (pv 1)) (blkOk_by (N := nNInit) (sc := defScope m_Note_init) (by decide +kernel))
        (fun _ _ _ _ _ => pg_name (i := 3) sc_NInit.nd rfl (Or.inl rfl)) (fun _ _ _ _ _ => pts_nil) (fun _ _ _ _ _ => pe_call G3 hr1 rfl m3 k3 b3 .nil pass0 (pa_cons (pv 3) pa_nil))) rfl)))), ?_⟩
    refine ⟨_, rfl, a, rfl, .inl ⟨_, hv⟩, fun H1 s1 => ?_⟩
    refine ⟨true, rfl, iteF ?_⟩
    refine ⟨_, rfl, a, vs, rfl, s1.seq hv, ?_⟩
    refine for_src (src_enum mn_Row (hrs.mono mn_Row s1)) (fun i σ H2 => ∃ x2 x3, σ = [some (.ref x), some (.ref a), x2, x3] ∧ Same H1 H2) ⟨none, none, rfl, Same.refl _⟩ (fun i σ H2 ⟨x2, x3, e1, s2⟩ => ⟨s2, (s1.trans s2).seq hv⟩) ?_ ?_
    · rintro i ⟨j, r⟩ y σ H2 H3 hb hi ⟨x2, x3, rfl, s2⟩ s3 ⟨T, y1, y2, rfl, hT, e1, hR⟩
      refine ⟨T, _, rfl, SqT.of hT, rfl, _, _, rfl, _, _, rfl, rfl, ?_⟩
      have hmem : r ∈ rows := (List.of_mem_zip (List.mem_of_getElem? hb)).2
      obtain ⟨g1, g2, g3⟩ := hok r hmem
      refine ⟨_, rfl, y2, r, rfl, hR, ⟨by omega, g3⟩, fun H4 s4 => ?_⟩
      exact ⟨true, rfl, iteF ⟨_, _, rfl, (s2.trans s3).trans s4⟩⟩
    · rintro σ H2 ⟨x2, x3, rfl, s2⟩
      have s12 := s1.trans s2
      refine ⟨_, rfl, a, vs, rfl, .inl (s12.seq hv), _, _, rfl, rfl, _, rfl, ?_⟩
      rw [decide_eq_false (show ¬ (8 : Int) < ((vs.length : Nat) : Int) by rw [hrs.length]; omega)]
      refine iteF ?_
      refine ⟨_, rfl, a, rfl, ⟨_, s12.seq hv⟩, fun D hD => ?_⟩
      refine lc_src (src_list mn_Row (hrs.mono mn_Row s12)) (fun H v r => ∃ r', RowR H v r' ∧ KeptOf r r') (fun r => r) (fun _ => true) ⟨Same.refl _, s12.seq hv⟩ hD (by exact small1000 (by omega)) ?_ ?_
      · intro i r y H3 acc Nx hb s3 _ hR hD3 hl3 _ _ kT
        obtain ⟨g1, g2, g3⟩ := hok r (List.mem_of_getElem? hb)
        refine ⟨rfl, tYes_of ⟨_, rfl, y, r, rfl, hR.l, g1, g2, fun u H4 r' s4 hu hk => ?_⟩⟩
        exact ⟨acc, s4 _ _ hD3, hl3, kT rfl _ _ s4 fun H5 b5 => ⟨r', row_but hu (s4 _ _ hD3) b5, hk⟩⟩
      · intro H3 ys s3 hy he
        rw [filt, List.map_id'] at he
        have hx3 : H3 x = some (.ins (ga K "Note") dx []) := (s12.trans s3) _ _ hx
        have hDx : D ≠ x := fun z => by rw [z, hx3] at hy; exact nomatch hy
        obtain ⟨n, hn1, hn2⟩ := each_ex (he H3 fun _ _ _ z => z)
        refine ⟨_, rfl, x, _, dx, _, rfl, hx3, e.cl_Note, e.n_Note_own_sums, (by decide), ?_⟩
        refine q _ D n (none_of s12 hD) ((But.of_same (s12.trans s3)).trans But.upd) upd_same ⟨ys, by rw [upd_ne hDx]; exact hy, hn1.imp fun v r _ hv => row_butI hv hx3 But.upd⟩ hn2
/-! ### len, used_keys -/
theorem sc_NLen : FnScope ["self"] ["self"] (defScope m_Note_len) := ⟨rfl, rfl, rfl, by decide +kernel, rfl, by decide +kernel, by decide +kernel⟩
def spNLen (K : Fg) : Sp := fun vs H Q _ => ∃ x n, vs = [x] ∧ NoteR K H x n ∧ Q (.int n.length) H
theorem hasM_NLen (e : Ev K mg) : HasM P w K mg base 1 "Note" "__len__" ["self"] (spNLen K) := by
  obtain ⟨fd, F⟩ := e.F_m_Note_len
  refine ⟨fd, e.me_Note_len, ?_, F.bindsN fun _ _ _ _ _ _ us hl => match us, hl with | [_], _ => rfl⟩
  refine F.okD sc_NLen (fun vs H Q E h => ?_) (fun cdv A outer s H vs Q E hr h => ?_)
  · obtain ⟨x, n, rfl, _⟩ := h; rfl
  · obtain ⟨x, n, rfl, ⟨a, rfl, dx, l, ha, vs, hl, ht⟩, q⟩ := h
    refine ⟨_, pss_one (ps_ret (pe_callB call_len_seq rfl e.b_len boot_len (pa_cons (pe_fld (pv 0) rfl) pa_nil))), ?_⟩
    refine ⟨_, rfl, a, _, dx, _, _, rfl, ha, e.cl_Note, e.n_Note_own_sums, f1_look _ _, l, vs, rfl, .inl (SqL.of hl), ?_⟩
    rw [ht.length]
    exact q
abbrev nNUsed : List Str := ["self", "row", "key"]
theorem sc_NUsed : FnScope nNUsed ["self"] (defScope m_Note_used_keys) := ⟨rfl, rfl, rfl, by decide +kernel, rfl, by decide +kernel, by decide +kernel⟩
def rowKs (r : Row) : List V := r.map fun p => .str p.1
def allKs (n : List Row) : List Str := n.flatMap fun r => r.map (·.1)
theorem allKs_vals (n : List Row) : n.flatMap rowKs = (allKs n).map V.str := by
  unfold allKs rowKs
  rw [List.map_flatMap]
  congr 1
  funext r
  rw [List.map_map]
  rfl
/-- the keys, each once -/
def KeysOf (l : List Str) (ks : List Str) : Prop := ks.Nodup ∧ ∀ k, k ∈ ks ↔ k ∈ l
def spNUsed (K : Fg) : Sp := fun vs H Q _ => ∃ x n, vs = [x] ∧ NoteR K H x n ∧ (allKs n).length ≤ 1000 ∧ n.length ≤ 1000 ∧ ∀ a ks H', H a = none → Same H H' → H' a = some (.lst (ks.map V.str)) → KeysOf (allKs n) ks → Q (.ref a) H'
theorem hasM_NUsed (e : Ev K mg) : HasM P w K mg base 1 "Note" "used_keys" ["self"] (spNUsed K) := by
  obtain ⟨fd, F⟩ := e.F_m_Note_used_keys
  refine ⟨fd, e.me_Note_used_keys, ?_, F.bindsN fun _ _ _ _ _ _ us hl => match us, hl with | [_], _ => rfl⟩
  refine F.okD sc_NUsed (fun vs H Q E h => ?_) (fun cdv A outer s H vs Q E hr h => ?_)
  · obtain ⟨x, n, rfl, _⟩ := h; rfl
  · obtain ⟨x, n, rfl, ⟨a, rfl, dx, l, ha, vs, hl, ht⟩, hz, hnl, q⟩ := h
    refine ⟨_, pss_one (ps_ret (pe_callB (cr_sortedT rfl hr.units) rfl e.b_sorted boot_sorted (pa_cons (pe_callTy (cr_setT rfl) rfl e.b_set boot_set (pa_cons (pe_locks (pe_lc2 (own := [("row", 1), ("key", 2)]) (vs1 := [2]) (g := gName 1) (tt := tYes) (g1 := gName 2) (tt1 := tYes) (te := tVar 2) rfl sc_NUsed.nd (pi_list (pe_fld (pv 0) rfl)) (blkOk_by (N := nNUsed) (sc := defScope m_Note_used_keys) (by decide +kernel)) (by decide)
      (fun _ _ _ _ _ => pg_name (i := 1) sc_NUsed.nd rfl (Or.inl rfl)) (fun _ _ _ _ _ => pts_nil) (fun _ _ _ _ _ => pi_keys (pv 1)) (fun _ _ _ _ _ => pg_name (i := 2) sc_NUsed.nd rfl (Or.inl rfl)) (fun _ _ _ _ _ => pts_nil) (fun _ _ _ _ _ => pv 2))) pa_nil)) pa_nil))), ?_⟩
    refine ⟨_, locks (good := fun ys => ys = (allKs n).map V.str) (vs0 := []) (rows0 := []) (ht.imp fun v r _ h => h.l) .nil ?_ ?_⟩
    · intro HL Q' nd hk hq
      refine ⟨_, rfl, a, _, dx, _, _, rfl, nd _ _ (fun _ z => nomatch z) ha, e.cl_Note, e.n_Note_own_sums, f1_look _ _, l, rfl, ⟨_, SqL.of (nd _ _ (fun _ z => nomatch z) hl)⟩, fun D hD => ?_⟩
      have hkD : Each (fun H v r => ∃ d od, v = .ref d ∧ H d = some (.frz od (.dK (rowKV r))) ∧ d ≠ D) HL vs n := (show Each RowK HL vs n by simpa using hk).imp fun v r _ ⟨d, od, ev, hd⟩ => ⟨d, od, ev, hd, ne_of_none hd hD⟩
      refine lc2_vals (src_list (fun _ _ _ _ s ⟨d, od, ev, hd, hn⟩ => ⟨d, od, ev, s _ _ hd, hn⟩) hkD) rowKs ⟨Same.refl _, SqL.of (nd _ _ (fun _ z => nomatch z) hl)⟩ hD ?_ (fun _ => rfl) (fun _ _ => rfl) (fun _ _ => rfl) ?_ ?_
      · rw [allKs_vals, List.length_map]; exact small1000 hz
      · intro r x H2 hr' _ s2 ⟨d, od, ex, hd, hdD⟩ hDn G hG
        subst ex
        refine ⟨_, rfl, d, od, rfl, .inl ⟨_, hd, ?_⟩⟩
        refine hG _ (fun H => H d = some (.frz od (.dK (rowKV r)))) H2 (Same.refl _) ?_ (by rw [del_ne hdD]; exact hd)
        have := src_imp (S := isV) kV (src_keys (d := d) (o := od) (kvs := rowKV r)) (fun _ _ _ h => h)
        rw [rowKV_keys, List.map_map, List.map_map] at this
        exact this
      · intro H2 s2 hD2
        exact hq D _ H2 s2 hD2 (allKs_vals n)
    · intro D ys H2 s2 hD2 hys
      subst hys
      refine ⟨D, allKs n, rfl, SqL.of hD2, by omega, fun p m hm hp => ?_⟩
      exact ⟨p, allKs n, m, rfl, upd_same, by omega, fun ns p2 hn hmem hp2 => q p2 ns _ (none_of (s2.trans (same_upd hp)) hp2) ((s2.trans (same_upd hp)).trans (same_upd hp2)) upd_same ⟨hn, hmem⟩⟩
end NG

set_option Elab.async false
set_option linter.all false
set_option maxRecDepth 100000
set_option maxHeartbeats 400000
/-! == of rows in lists, Note.__eq__, Note.shows -/
namespace NG
open PySem PySem.Spec PyProof.Rows L2 He
section
variable {X : Cx}
def DRow : Eqv := fun x y H => ∃ a b ks ls, x = .ref a ∧ y = .ref b ∧ H a = some (.dK ks) ∧ H b = some (.dK ls) ∧ ks.length = ls.length ∧ ∀ p ∈ ks, valV ls p.1 = some p.2 ∧ flatB p.2 = true
theorem mon_row : Mon DRow := fun x y H H' e ⟨a, b, ks, ls, h1, h2, h3, h4, h5⟩ => ⟨a, b, ks, ls, h1, h2, e _ _ h3, e _ _ h4, h5⟩
theorem rcG_row : RcG X 0 DRow := by
  intro A pins s σ H x y u v sb I rx ry d
  obtain ⟨a, b, ks, ls, rfl, rfl, ea, eb, hlen, hp⟩ := d
  cases rx
  cases ry
  obtain ⟨_, ya, va, ra, da⟩ := (show ObjOk X.prog X.w H s.heap a (.dK ks) from I.hok a _ ea)
  obtain ⟨_, yb, vb, rb, db⟩ := (show ObjOk X.prog X.w H s.heap b (.dK ls) from I.hok b _ eb)
  have hl : va.length = vb.length := by rw [← ra.length, ← rb.length]; exact hlen
  exact PySem.W.keq_eq (knd := mixKind X.prog X.w) (r := true) ya yb da db sb.room.units0 (fun _ => hits_all rb ra hp) ⟨by simp [hl], H, I, Ext.rfl'⟩
theorem eqG_row : EqG X 0 DRow := rcG_row.eqG fun _ _ _ d => let ⟨a, b, _, _, hx, hy, _⟩ := d; ⟨a, b, hx, hy⟩
end
theorem AlikeR.d {H : Hp} {v w : V} {r1 r2 : Row} (h1 : RowR H v r1) (h2 : RowR H w r2) (h : AlikeR r1 r2) : DRow v w H := by
  obtain ⟨a, rfl, ha⟩ := h1
  obtain ⟨b, rfl, hb⟩ := h2
  exact ⟨a, b, _, _, rfl, rfl, ha, hb, h.hits.1, h.hits.2⟩
theorem prs_of {α : Type} {R : Rl α} {D : Eqv} {G : α → α → Prop} {H : Hp} (hd : ∀ v w a b, R H v a → R H w b → G a b → D v w H) : ∀ {vs ws : List V} {as bs : List α}, Each R H vs as → Each R H ws bs → Paired G as bs → Prs D vs ws H
  | _, _, _, _, .nil, .nil, .nil => .nil
  | _, _, _, _, .cons r1 t1, .cons r2 t2, .cons g t => .cons (hd _ _ _ _ r1 r2 g) (prs_of hd t1 t2 t)
variable {P : Program} {w : World} {K : Fg} {mg : Str → Option Value} {base : Heap}
/-! ### Note.__eq__ -/
def AlikeN (n1 n2 : List Row) : Prop := Paired AlikeR n1 n2
def NoteEq (K : Fg) (a b : Addr) (H : Hp) : Prop := ∃ n1 n2, NoteA K H a n1 ∧ NoteA K H b n2 ∧ AlikeN n1 n2
theorem sc_NEq : FnScope ["self", "other"] ["self", "other"] (defScope m_Note_eq) := ⟨rfl, rfl, rfl, by decide +kernel, rfl, by decide +kernel, by decide +kernel⟩
theorem hasM_NEq (e : Ev K mg) : HasM P w K mg base 2 "Note" "__eq__" ["self", "other"] (spEq (NoteEq K)) := by
  obtain ⟨fd, F⟩ := e.F_m_Note_eq
  refine ⟨fd, e.me_Note_eq, ?_, F.bindsN fun _ _ _ _ _ _ us hl => match us, hl with | [_, _], _ => rfl⟩
  refine F.okD sc_NEq (fun vs H Q E h => ?_) (fun cdv A outer s H vs Q E hr h => ?_)
  · obtain ⟨a, b, rfl, _⟩ := h; rfl
  · obtain ⟨a, b, rfl, ⟨n1, n2, ⟨dx, l, ha, vs, hl, ht⟩, ⟨dy, m, hb, ws, hm, hu⟩, hal⟩, q⟩ := h
    refine ⟨_, pss_one (ps_ret (pe_and (pe_callB call_isi rfl e.b_isinstance boot_isinstance (pa_cons (pv 1) (pa_cons (pe_glob rfl e.g_Note (v := .ref (ga K "Note")) rfl) pa_nil)))
      (pe_one (pe_cmpR (op_eqG (n := 1) (D := DList DRow) (rcG_list mon_row eqG_row) hr) (pe_fld (pv 0) rfl) (pe_fld (pv 1) rfl) (nomark _))))), ?_⟩
    refine ⟨_, rfl, _, _, _, _, _, rfl, .own _, .base (e.ty_Note.ty hb), e.k_Note_Note, true, rfl, iteT ?_⟩
    refine ⟨_, rfl, a, _, dx, _, _, rfl, ha, e.cl_Note, e.n_Note_own_sums, f1_look _ _, _, rfl, b, _, dy, _, _, rfl, hb, e.cl_Note, e.n_Note_own_sums, f1_look _ _, ?_⟩
    exact ⟨⟨l, m, vs, ws, rfl, rfl, hl, hm, prs_of (fun v w a b h1 h2 g => AlikeR.d h1 h2 g) ht hu hal⟩, q⟩
/-! ### Note.shows -/
abbrev nNShows : List Str := ["self", "table", "row", "key", "number"]
theorem sc_NShows : FnScope nNShows ["self", "table"] (defScope m_Note_shows) := ⟨rfl, rfl, rfl, by decide +kernel, rfl, by decide +kernel, by decide +kernel⟩
def SmallN (n : List Row) : Prop := n.length ≤ 100 ∧ ∀ r ∈ n, SmallR szT r ∧ ∀ p ∈ r, keyS p.1 = true
def spNShows (K : Fg) : Sp := fun vs H Q _ => ∃ (x y : V) (n : List Row) (t : Row), vs = [x, y] ∧ NoteR K H x n ∧ TabR K H y t ∧ SmallN n ∧ SmallT szT t ∧
  ∀ (T : Addr) (H' : Hp), Same H H' → H' T = some (.tup ((shownR n t).map V.int)) → Q (.ref T) H'
theorem hasM_NShows (e : Ev K mg) : HasM P w K mg base 3 "Note" "shows" ["self", "table"] (spNShows K) := by
  obtain ⟨fd, F⟩ := e.F_m_Note_shows
  refine ⟨fd, e.me_Note_shows, ?_, F.bindsN fun _ _ _ _ _ _ us hl => match us, hl with | [_, _], _ => rfl⟩
  obtain ⟨f1', d1, m1, G1, k1, b1⟩ := has_want_table (P := P) (w := w) (base := base) e
  obtain ⟨d2, M2, G2, b2⟩ := hasM_at (P := P) (w := w) (base := base) e
  refine F.okD sc_NShows (fun vs H Q E h => ?_) (fun cdv A outer s H vs Q E hr h => ?_)
  · obtain ⟨x, y, n, t, rfl, _⟩ := h; rfl
  · obtain ⟨x, y, n, t, rfl, ⟨a, rfl, dx, l, ha, vs, hl, hrs⟩, htab, ⟨hnl, hsm⟩, hst, q⟩ := h
    have hr1 := hr.mono (show 1 ≤ 2 by decide)
    refine ⟨_, pss_cons (ps_expr (pe_call G1 hr1 rfl m1 k1 b1 .nil pass0 (pa_cons (pv 1) pa_nil)))
      (pss_one (ps_ret (pe_callTy call_tuple_of rfl e.b_tuple boot_tuple (pa_cons (pe_lc (own := [("row", 2)]) (g := gName 2) (tt := tYes) rfl sc_NShows.nd (pi_list (pe_fld (pv 0) rfl)) (blkOk_by (N := nNShows) (sc := defScope m_Note_shows) (by decide +kernel))
      (fun _ _ _ _ _ => pg_name (i := 2) sc_NShows.nd rfl (Or.inl rfl)) (fun _ _ _ _ _ => pts_nil)
      (fun _ _ _ _ _ => pe_callB (show CallR _ (.builtin "sum") (rSum K) from cr_sum rfl) rfl e.b_sum bt_sum (pa_cons (pe_lock (pe_lc (own := [("key", 3), ("number", 4)]) (g := gTup K 2 _) (tt := tYes) rfl sc_NShows.nd (pi_items (pv 2)) (blk_in (sc0 := scRow) (blkOk_by (N := nNShows) (sc := scRow) (by decide +kernel)) _ _ _)
        (fun _ _ _ _ _ => pg_tup rfl (pgs_cons (pg_name (i := 3) sc_NShows.nd rfl (Or.inl rfl)) (pgs_cons (pg_name (i := 4) sc_NShows.nd rfl (Or.inl rfl)) pgs_nil))) (fun _ _ _ _ _ => pts_nil)
        (fun _ _ _ _ _ => pe_op op_mulW (pv 4) (pe_meth (pv 1) e.cl_Table M2 G2 hr b2 .nil pass0 (pa_cons (pv 3) pa_nil))))) pa_nil))) pa_nil)))), ?_⟩
    refine ⟨_, rfl, y, rfl, ⟨t, htab.l⟩, ?_⟩
    refine ⟨_, rfl, a, _, dx, _, _, rfl, ha, e.cl_Note, e.n_Note_own_sums, f1_look _ _, l, rfl, ⟨_, SqL.of hl⟩, fun D hD => ?_⟩
    refine lc_src (src_list (K := K) mn_Row hrs) isI (fun row => dotR row t) (fun _ => true) ⟨Same.refl _, SqL.of hl⟩ hD (small1000 (by omega)) ?_ ?_
    · intro i row x H2 acc Nx hb s2 _ ⟨d, ex, hd⟩ hD2 hl2 _ _ kT
      subst ex
      have hlt2 : TabL K H2 y t := mn_TabL _ _ _ _ s2 htab.l
      refine ⟨rfl, tYes_of ?_⟩
      refine ⟨d, _, hd, trivial, fun od => ?_⟩
      refine ⟨_, rfl, d, od, rowKV row, rfl, upd_same, fun D2 hD2' => ?_⟩
      obtain ⟨hrow, hkeys⟩ := hsm row (List.mem_of_getElem? hb)
      refine lc_src src_row isI (fun p => p.2 * atR t p.1) (fun _ => true) upd_same hD2' (small1000 (by have := hrow.1; omega)) ?_ ?_
      · intro j p z H3 acc2 Nx2 hp s3 hd3 ⟨T, ey, hT⟩ hD3 hl3 _ _ kT2
        subst ey
        have hlt3 : TabL K H3 y t := mn_TabL _ _ _ _ s3 (hlt2.lock hd)
        refine ⟨T, _, rfl, SqT.of hT, rfl, _, _, rfl, _, _, rfl, rfl, rfl, tYes_of ?_⟩
        have hlt4 := hlt3
        obtain ⟨b, dy, c, ey, hb3, hc⟩ := hlt3
        subst ey
        refine ⟨_, rfl, _, rfl, b, dy, _, rfl, hb3, f1_no (by decide), _, rfl, .ref b, p.1, t, rfl, hlt4, hkeys p (List.mem_of_getElem? hp), fun H4 s4 => ?_⟩
        refine ⟨_, _, rfl, rfl, wide_mul (hrow.2 p (List.mem_of_getElem? hp)) (hst p.1) (by decide) (by decide) (by decide), acc2, s4 _ _ hD3, hl3, ?_⟩
        exact kT2 rfl _ _ s4 fun _ _ => rfl
      · intro H3 ys s3 hy he
        have ey := (he H3 fun _ _ _ z => z).eq_map V.int (fun _ _ z => z)
        rw [filt] at ey
        have hd3 : H3 d = some (.frz od (.dK (rowKV row))) := s3 _ _ upd_same
        have hDd : D2 ≠ d := fun z => by rw [z, upd_same] at hD2'; exact nomatch hD2'
        have sU := unlock_same hd s3
        refine ⟨hd3, D2, _, rfl, SqL.of (by rw [upd_ne hDd, hy, ey]), acc, sU _ _ hD2, hl2, kT rfl _ _ sU fun _ _ => rfl⟩
    · intro H2 ys s2 hy he
      have ey := (he H2 fun _ _ _ z => z).eq_map V.int (fun _ _ z => z)
      rw [filt] at ey
      refine ⟨D, _, rfl, .inl ⟨SqL.of hy, fun l' hl' => ?_⟩⟩
      refine q l' _ (s2.trans (same_upd hl')) ?_
      rw [upd_same, ey]
      rfl
end NG

set_option Elab.async false
set_option linter.all false
set_option maxRecDepth 100000
set_option maxHeartbeats 400000
/-! is_seed, Sketch -/
namespace NG
open PySem PySem.Spec PyProof.Rows L2 He
variable {P : Program} {w : World} {K : Fg} {mg : Str → Option Value} {base : Heap}
abbrev SkE := Str × Rat × List Row
/-- a seed as it is given -/
def SdR (K : Fg) : Rl SkE := fun H v m => ∃ T x y, v = .ref T ∧ H T = some (.tup [.str m.1, x, y]) ∧ Rt K H x m.2.1 ∧ NoteR K H y m.2.2
theorem mn_Sd : Mn (SdR K) := fun _ _ _ _ s ⟨T, x, y, e, h, r, n⟩ => ⟨T, x, y, e, s _ _ h, mn_Rt _ _ _ _ s r, mn_Note _ _ _ _ s n⟩
/-- a seed as it is kept: weight, note -/
def EnR (K : Fg) : Rl SkE := fun H v m => ∃ T x y, v = .ref T ∧ H T = some (.tup [x, y]) ∧ Rt K H x m.2.1 ∧ NoteR K H y m.2.2
theorem mn_En : Mn (EnR K) := fun _ _ _ _ s ⟨T, x, y, e, h, r, n⟩ => ⟨T, x, y, e, s _ _ h, mn_Rt _ _ _ _ s r, mn_Note _ _ _ _ s n⟩
theorem sc_is_seed : FnScope ["value"] ["value"] (defScope f_is_seed) := ⟨rfl, rfl, rfl, by decide +kernel, rfl, by decide +kernel, by decide +kernel⟩
def spIsSeed (K : Fg) : Sp := fun vs H Q _ => ∃ v m, vs = [v] ∧ SdR K H v m ∧ keyS m.1 = true ∧ ∀ H', Same H H' → Q (.bl true) H'
theorem has_is_seed (e : Ev K mg) : Has P w K mg base 3 "is_seed" ["value"] (spIsSeed K) := by
  obtain ⟨fd, F⟩ := e.F_f_is_seed
  refine ⟨_, fd, e.g_is_seed, ?_, F.kp, F.bindsN fun _ _ _ _ _ _ us hl => match us, hl with | [_], _ => rfl⟩
  obtain ⟨f1', d1, m1, G1, k1, b1⟩ := has_is_key (P := P) (w := w) (base := base) e
  obtain ⟨f2, d2, m2, G2, k2, b2⟩ := has_is_number (P := P) (w := w) (base := base) e
  refine F.okD sc_is_seed (fun vs H Q E h => ?_) (fun cdv A outer s H vs Q E hr h => ?_)
  · obtain ⟨v, m, rfl, _⟩ := h; rfl
  · obtain ⟨v, ⟨nm, wt, nt⟩, rfl, ⟨T, x, y, rfl, hT, hx, hy⟩, hk, q⟩ := h
    have hr1 := hr.mono (show 1 ≤ 2 by decide)
    refine ⟨_, pss_cons (ps_if (PW.pt (pw_or (pt_not (pt_val (pe_callB call_isi rfl e.b_isinstance boot_isinstance (pa_cons (pv 0) (pa_cons (pe_bltn (v := .ty "tuple") rfl e.b_tuple boot_tuple rfl) pa_nil)))))
        (pw_or1 (pt_cmpR op_ne (pe_callB call_len_seq rfl e.b_len boot_len (pa_cons (pv 0) pa_nil)) pe_int (nomark _))))) (pss_one (ps_ret pe_bl)) pss_nil)
      (pss_one (ps_ret (pe_and (pe_call G1 hr1 rfl m1 k1 b1 .nil pass0 (pa_cons (pe_ix ix_tup (pv 0) pe_int (fun _ _ => rfl)) pa_nil)) (pe_and (pe_call G2 hr rfl m2 k2 b2 .nil pass0 (pa_cons (pe_ix ix_tup (pv 0) pe_int (fun _ _ => rfl)) pa_nil))
        (pe_one (pe_callB call_isi rfl e.b_isinstance boot_isinstance (pa_cons (pe_ix ix_tup (pv 0) pe_int (fun _ _ => rfl)) (pa_cons (pe_glob rfl e.g_Note (v := .ref (ga K "Note")) rfl) pa_nil)))))))), ?_⟩
    refine ⟨_, rfl, _, .ty "tuple", _, _, _, rfl, .ty _, .base (.tup hT), kit_ty (by decide +kernel : kitB "tuple" "tuple" = some true), true, rfl, iteF ?_⟩
    refine ⟨_, rfl, T, _, rfl, .inr (SqT.of hT), rfl, _, rfl, iteF ?_⟩
    refine ⟨_, rfl, T, _, 0, _, rfl, rfl, SqT.of hT, rfl, .str nm, rfl, .inl ⟨nm, rfl, Nat.le_trans (keyS_len hk) (by decide), fun H1 s1 => ?_⟩⟩
    rw [show keyS nm = true from hk]
    refine ⟨true, rfl, iteT ?_⟩
    have hT1 := s1 _ _ hT
    refine ⟨_, rfl, T, _, 1, x, rfl, rfl, SqT.of hT1, rfl, x, wt, rfl, .inr (mn_Rt _ _ _ _ s1 hx), true, rfl, iteT ?_⟩
    obtain ⟨b, rfl, dy, l, hb, _⟩ := mn_Note _ _ _ _ s1 hy
    exact ⟨_, rfl, T, _, 2, _, rfl, rfl, SqT.of hT1, rfl, _, _, _, _, _, rfl, .own _, .base (e.ty_Note.ty hb), e.k_Note_Note, q _ s1⟩
/-! ### a sketch -/
def SkA (K : Fg) (H : Hp) (a : Addr) (sk : List SkE) : Prop := ∃ dx d kvs, H a = some (.ins (ga K "Sketch") dx (f1 "own_seeds" (.ref d))) ∧ H d = some (.dK kvs) ∧ kvs.map (·.1) = (sk.map (·.1)).map Sum.inr ∧ Each (EnR K) H (kvs.map (·.2)) sk
def SkR (K : Fg) : Rl (List SkE) := fun H v sk => ∃ a, v = .ref a ∧ SkA K H a sk
theorem mn_SkA {H H' : Hp} {a : Addr} {sk : List SkE} (s : Same H H') (h : SkA K H a sk) : SkA K H' a sk :=
  let ⟨dx, d, kvs, h1, h2, h3, h4⟩ := h; ⟨dx, d, kvs, s _ _ h1, s _ _ h2, h3, h4.mono mn_En s⟩
theorem mn_Sk : Mn (SkR K) := fun _ _ _ _ s ⟨a, e, h⟩ => ⟨a, e, mn_SkA s h⟩
/-! ### used_keys -/
abbrev nSUsed : List Str := ["self", "name", "key"]
theorem sc_SUsed : FnScope nSUsed ["self"] (defScope m_Sketch_used_keys) := ⟨rfl, rfl, rfl, by decide +kernel, rfl, by decide +kernel, by decide +kernel⟩
def skKs (sk : List SkE) : List Str := sk.flatMap fun m => allKs m.2.2
/-- what an entry's dict key gives -/
theorem valV_of {kvs : List (Key × V)} (hn : (kvs.map (·.1)).Nodup) : ∀ {i : Nat} {k : Key} {v : V}, kvs[i]? = some (k, v) → valV kvs k = some v := fun {i k v} h => by
  unfold valV
  have hm := List.mem_of_getElem? h
  cases e : kvs.find? fun kv => decide (kv.1 = k) with
  | none =>
    rw [List.find?_eq_none] at e
    exact absurd (decide_eq_true rfl) (e _ hm)
  | some p =>
    have h1 := List.mem_of_find?_eq_some e
    have h2 := List.find?_some e
    have h3 : p.1 = k := of_decide_eq_true h2
    obtain ⟨j, hj⟩ := List.mem_iff_getElem?.mp h1
    have hi := List.getElem?_eq_some_iff.mp h
    have hj' := List.getElem?_eq_some_iff.mp hj
    have : j = i := by
      by_cases hij : j = i
      · exact hij
      · have a1 : (kvs.map (·.1))[j]? = some k := by rw [List.getElem?_map, hj]; exact congrArg some h3
        have a2 : (kvs.map (·.1))[i]? = some k := by rw [List.getElem?_map, h]; rfl
        obtain ⟨l1, e1⟩ := List.getElem?_eq_some_iff.mp a1
        obtain ⟨l2, e2⟩ := List.getElem?_eq_some_iff.mp a2
        rcases Nat.lt_or_gt_of_ne hij with hlt | hlt
        · exact absurd (e1.trans e2.symm) (List.pairwise_iff_getElem.mp hn j i l1 l2 hlt)
        · exact absurd (e2.trans e1.symm) (List.pairwise_iff_getElem.mp hn i j l2 l1 hlt)
    subst this
    rw [h] at hj
    cases hj
    rfl
/-- [y for x in xs for y in ys(x)], the ys(x) told by OutR -/
theorem lc2_gen {α : Type} {J : It} {Hs : Hp → Prop} {R : Rl α} {bs : List α} {i0 j0 : Nat} {wi1 : TI} {vs vs1 : List Nat} {σ : L2.St} {H1 : Hp} {D : Addr} {Qd : Hp → Prop}
    (S : Src J Hs R bs) (OutR : α → List V → Prop) (B : Nat) (hB : ∀ b us, b ∈ bs → OutR b us → us.length ≤ B) (Pv : Nat → List V → Prop) (p0 : Pv 0 []) (pS : ∀ i b acc us, bs[i]? = some b → Pv i acc → OutR b us → Pv (i + 1) (acc ++ us))
    (h1 : Hs H1) (nD : H1 D = none) (hz : bs.length * B < sizeLine)
    (w0 : ∀ x, wipe ((wipe σ vs).set i0 (some x)) vs = wipe σ vs)
    (w1 : ∀ x y, wipe ((wipe ((wipe σ vs).set i0 (some x)) vs1).set j0 (some y)) vs1 = wipe ((wipe σ vs).set i0 (some x)) vs1)
    (l1 : ∀ x y, ((wipe ((wipe σ vs).set i0 (some x)) vs1).set j0 (some y))[j0]? = some (some y))
    (inner : ∀ b x H, b ∈ bs → Hs H → Same H1 H → R H x b → H D ≠ none → ∀ G : It → Hp → Prop, (∀ J1 Hs1 H' us, OutR b us → Same H H' → Src J1 Hs1 isV us → Hs1 (del D H') → G J1 H') → wi1 ((wipe σ vs).set i0 (some x)) H G)
    (done : ∀ H acc, Same H1 H → H D = some (.lst acc) → Pv bs.length acc → Qd H) :
    ∃ W : Nat → Nat → Hp → Prop, (∃ m, W 0 m (upd H1 D (.lst []))) ∧ ∀ i m H, W i m H →
  (J.stop i H ∧ Qd H) ∨ (J.go i H ∧ ∃ Nx : Hp → Prop, (∀ H', Nx H' → ∃ m', m' < m ∧ W (i + 1) m' H') ∧ ∀ x H', J.yld i H x H' → gName i0 x (wipe σ vs) H' fun σ2 H2 => wipe σ2 vs = wipe σ vs ∧ tYes σ2 H2 fun b H3 =>
    if b = true then wi1 σ2 H3 fun J1 H4 => ∃ W1 : Nat → Nat → Hp → Prop, (∃ m, W1 0 m H4) ∧ ∀ j k H, W1 j k H →
      (J1.stop j H ∧ Nx H) ∨ (J1.go j H ∧ ∃ Nx1 : Hp → Prop, (∀ H', Nx1 H' → ∃ k', k' < k ∧ W1 (j + 1) k' H') ∧ ∀ x H', J1.yld j H x H' → gName j0 x (wipe σ2 vs1) H' fun σ3 H5 => wipe σ3 vs1 = wipe σ2 vs1 ∧ tYes σ3 H5 fun b H6 =>
        if b = true then (tVar j0) σ3 H6 fun y H7 => ∃ acc, H7 D = some (.lst acc) ∧ acc.length < sizeLine ∧ Nx1 (upd H7 D (.lst (acc ++ [y]))) else Nx1 H6)
    else Nx H3) := by
  have hd : ∀ H, Same H1 H → Hs H := fun H s => S.keep _ _ s h1
  refine ⟨fun i m H => m = bs.length - i ∧ i ≤ bs.length ∧ Same H1 H ∧ ∃ acc, H D = some (.lst acc) ∧ acc.length ≤ i * B ∧ Pv i acc, ⟨bs.length, by simp, Nat.zero_le _, same_upd nD, [], upd_same, Nat.zero_le _, p0⟩, ?_⟩
  rintro i m H ⟨rfl, hi, s, acc, hy, hl, hp⟩
  by_cases hlt : i < bs.length
  · refine .inr ⟨S.go i H (hd H s) hlt, _, fun H' z => ⟨bs.length - (i + 1), by omega, z⟩, fun x H' yl => ?_⟩
    obtain ⟨b, hb, r, s'⟩ := S.yld i H x H' (hd H s) hlt yl
    have hyD : H' D = some (.lst acc) := s' _ _ hy
    refine ⟨w0 x, tYes_of ?_⟩
    refine inner b x H' (List.mem_of_getElem? hb) (S.keep _ _ s' (hd H s)) (s.trans s') r (by rw [hyD]; exact fun z => nomatch z) _ fun J1 Hs1 H4 us ho s4 S1 hs1 => ?_
    have s14 := (s.trans s').trans s4
    have hub := hB b us (List.mem_of_getElem? hb) ho
    have hmul : i * B + B ≤ bs.length * B := by
      have := Nat.mul_le_mul_right B (show i + 1 ≤ bs.length from hlt)
      rw [Nat.add_mul, Nat.one_mul] at this
      exact this
    refine ⟨fun j k H => k = us.length - j ∧ j ≤ us.length ∧ Same (del D H4) H ∧ H D = some (.lst (acc ++ us.take j)), ⟨us.length, by simp, Nat.zero_le _, del_same, by simpa using s4 _ _ hyD⟩, ?_⟩
    rintro j k H5 ⟨rfl, hj, s5, hy5⟩
    have hs5 := S1.keep _ _ s5 hs1
    by_cases hjl : j < us.length
    · refine .inr ⟨S1.go j H5 hs5 hjl, _, fun H' z => ⟨us.length - (j + 1), by omega, z⟩, fun y H6 yl6 => ?_⟩
      obtain ⟨u, hu, ru, s6⟩ := S1.yld j H5 y H6 hs5 hjl yl6
      obtain rfl : y = u := ru
      refine ⟨w1 x y, tYes_of ?_⟩
      refine ⟨y, l1 x y, _, s6 _ _ hy5, ?_, rfl, hjl, ?_, ?_⟩
      · rw [List.length_append, List.length_take]; omega
      · intro c o e
        have hc : c ≠ D := fun z => by subst z; unfold del at e; rw [if_pos rfl] at e; exact nomatch e
        rw [upd_ne hc]
        exact s6 _ _ (s5 _ _ e)
      · rw [upd_same, List.take_add_one, hu, ← List.append_assoc]
        rfl
    · have ej : j = us.length := by omega
      subst ej
      rw [List.take_length] at hy5
      refine .inl ⟨S1.stop H5 hs5, rfl, hlt, fun c o e => ?_, _, hy5, ?_, pS i b acc us hb hp ho⟩
      · have hc : c ≠ D := ne_of_none e nD
        exact s5 _ _ (by rw [del_ne hc]; exact s14 _ _ e)
      · rw [List.length_append, Nat.add_mul, Nat.one_mul]
        omega
  · have ei : i = bs.length := by omega
    subst ei
    exact .inl ⟨S.stop H (hd H s), done H acc s hy hp⟩
/-- a note stands while a dict with references changes -/
theorem note_but {H H' : Hp} {d : Addr} {kvs : List (Key × V)} {v : V} {n : List Row} (h : NoteR K H v n) (hd : H d = some (.dK kvs)) (hr : ∃ p ∈ kvs, ∃ a, p.2 = .ref a) (b : But d H H') : NoteR K H' v n := by
  obtain ⟨a, e, dx, l, ha, vs, hl, ht⟩ := h
  refine ⟨a, e, dx, l, b _ _ (fun z => by subst z; rw [hd] at ha; exact nomatch ha) ha, vs, b _ _ (fun z => by subst z; rw [hd] at hl; exact nomatch hl) hl, ht.imp fun v r _ ⟨c, ec, hc⟩ => ⟨c, ec, b _ _ (fun z => ?_) hc⟩⟩
  subst z
  rw [hd] at hc
  obtain ⟨p, hp, x, hx⟩ := hr
  have e2 : kvs = rowKV r := by cases hc; rfl
  rw [e2] at hp
  obtain ⟨q, _, rfl⟩ := List.mem_map.mp hp
  exact nomatch hx
theorem en_but {H H' : Hp} {d : Addr} {kvs : List (Key × V)} {v : V} {m : SkE} (h : EnR K H v m) (hd : H d = some (.dK kvs)) (hr : ∃ p ∈ kvs, ∃ a, p.2 = .ref a) (b : But d H H') : EnR K H' v m := by
  obtain ⟨T, x, y, e, hT, ⟨a, ex, dx, ha⟩, hy⟩ := h
  exact ⟨T, x, y, e, b _ _ (fun z => by subst z; rw [hd] at hT; exact nomatch hT) hT, ⟨a, ex, dx, b _ _ (fun z => by subst z; rw [hd] at ha; exact nomatch ha) ha⟩, note_but hy hd hr b⟩
theorem en_all {H H' : Hp} {d : Addr} {kvs : List (Key × V)} {sk : List SkE} (h : Each (EnR K) H (kvs.map (·.2)) sk) (hd : H d = some (.dK kvs)) (b : But d H H') : Each (EnR K) H' (kvs.map (·.2)) sk := by
  cases hk : kvs with
  | nil => rw [hk] at h; cases h; exact .nil
  | cons p r =>
    refine (hk ▸ h).imp fun v m _ hv => en_but hv hd ?_ b
    have h2 := h
    rw [hk] at h2
    cases h2 with
    | cons hv _ =>
      obtain ⟨T, _, _, e, _⟩ := hv
      exact ⟨p, by rw [hk]; exact List.mem_cons_self, T, e⟩
/-- the entry of a name -/
theorem sk_at {H : Hp} {kvs : List (Key × V)} {sk : List SkE} (hk : kvs.map (·.1) = (sk.map (·.1)).map Sum.inr) (he : Each (EnR K) H (kvs.map (·.2)) sk) (hn : (sk.map (·.1)).Nodup) {i : Nat} {m : SkE} (hi : sk[i]? = some m) :
    ∃ v, valV kvs (Sum.inr m.1) = some v ∧ EnR K H v m := by
  obtain ⟨v, hv, r⟩ := he.get' hi
  have h1 : (kvs.map (·.1))[i]? = some (Sum.inr m.1) := by rw [hk, List.getElem?_map, List.getElem?_map, hi]; rfl
  rw [List.getElem?_map] at hv h1
  cases e : kvs[i]? with
  | none => rw [e] at hv; exact nomatch hv
  | some p =>
    rw [e] at hv h1
    have e1 : p.2 = v := by simpa using hv
    have e2 : p.1 = Sum.inr m.1 := by simpa using h1
    refine ⟨v, valV_of ?_ (i := i) ?_, r⟩
    · rw [hk]
      exact List.pairwise_map.mpr (hn.imp fun h z => h (Sum.inr.inj z))
    · rw [e, ← e1, ← e2]
theorem src_names {d : Addr} {o : Obj} {kvs : List (Key × V)} {sk : List SkE} (hk : kvs.map (·.1) = (sk.map (·.1)).map Sum.inr) :
    Src (Itk d o kvs) (fun H => H d = some (.frz o (.dK kvs))) (fun _ v m => v = .str m.1) sk where
  keep := fun _ _ s h => s _ _ h
  go := fun i H h hi => ⟨h, by have := congrArg List.length hk; simp at this; omega⟩
  stop := fun H h => ⟨h, by have := congrArg List.length hk; simp at this; omega⟩
  yld := fun i H x H' h hi y => by
    obtain ⟨rfl, k, v, ek, rfl⟩ := y
    have h1 : (kvs.map (·.1))[i]? = some k := by rw [List.getElem?_map, ek]; rfl
    rw [hk, List.getElem?_map, List.getElem?_map] at h1
    cases e : sk[i]? with
    | none => rw [e] at h1; exact nomatch h1
    | some m =>
      rw [e] at h1
      have h2 : Sum.inr m.1 = k := by simpa using h1
      subst h2
      exact ⟨m, rfl, rfl, fun _ _ e => e⟩
def spSUsed (K : Fg) : Sp := fun vs H Q _ => ∃ x sk, vs = [x] ∧ SkR K H x sk ∧ (sk.map (·.1)).Nodup ∧ sk.length ≤ 12 ∧ (∀ m ∈ sk, m.2.2.length ≤ 100 ∧ (allKs m.2.2).length ≤ 100) ∧ ∀ a ks H', Same H H' → H' a = some (.lst (ks.map V.str)) → KeysOf (skKs sk) ks → Q (.ref a) H'
theorem hasM_SUsed (e : Ev K mg) : HasM P w K mg base 2 "Sketch" "used_keys" ["self"] (spSUsed K) := by
  obtain ⟨fd, F⟩ := e.F_m_Sketch_used_keys
  refine ⟨fd, e.me_Sketch_used_keys, ?_, F.bindsN fun _ _ _ _ _ _ us hl => match us, hl with | [_], _ => rfl⟩
  obtain ⟨d1, M1, G1, b1⟩ := hasM_NUsed (P := P) (w := w) (base := base) e
  refine F.okD sc_SUsed (fun vs H Q E h => ?_) (fun cdv A outer s H vs Q E hr h => ?_)
  · obtain ⟨x, n, rfl, _⟩ := h; rfl
  · obtain ⟨x, sk, rfl, ⟨a, rfl, dx, d, kvs, ha, hd, hk, he⟩, hn, hlk, hz, q⟩ := h
    refine ⟨_, pss_one (ps_ret (pe_callB (cr_sortedT rfl hr.units) rfl e.b_sorted boot_sorted (pa_cons (pe_callTy (cr_setT rfl) rfl e.b_set boot_set (pa_cons (pe_lock (pe_lc2 (wi1 := iList K _) (own := [("name", 1), ("key", 2)]) (vs1 := [2]) (g := gName 1) (tt := tYes) (g1 := gName 2) (tt1 := tYes) (te := tVar 2) rfl sc_SUsed.nd (pi_keys (pe_fld (pv 0) rfl)) (blkOk_by (N := nSUsed) (sc := defScope m_Sketch_used_keys) (by decide +kernel)) (by decide)
      (fun _ _ _ _ _ => pg_name (i := 1) sc_SUsed.nd rfl (Or.inl rfl)) (fun _ _ _ _ _ => pts_nil) (fun _ _ _ _ _ => pi_list (pe_meth0 (pe_ix (show IxR _ (rIxT K) from ix_tup) (pe_dget (hu_of hr) (show PE _ _ (tFld K (tVar 0) "own_seeds") from pe_fld (pv 0) rfl) (pv 1) (fun _ _ => rfl)) pe_int (fun _ _ => rfl)) e.cl_Note M1 G1 hr b1 .nil pass0)) (fun _ _ _ _ _ => pg_name (i := 2) sc_SUsed.nd rfl (Or.inl rfl)) (fun _ _ _ _ _ => pts_nil) (fun _ _ _ _ _ => pv 2))) pa_nil)) pa_nil))), ?_⟩
    refine ⟨d, _, hd, trivial, fun od => ?_⟩
    have hHLd : (upd H d (.frz od (.dK kvs))) d = some (.frz od (.dK kvs)) := upd_same
    have heL := en_all he hd (But.upd (o := .frz od (.dK kvs)))
    have haL : (upd H d (.frz od (.dK kvs))) a = some (.ins (ga K "Sketch") dx (f1 "own_seeds" (.ref d))) := by
      rw [upd_ne (fun z => by subst z; rw [hd] at ha; exact nomatch ha)]; exact ha
    refine ⟨_, rfl, a, _, dx, _, _, rfl, haL, e.cl_Sketch, e.n_Sketch_own_seeds, f1_look _ _, d, od, rfl, .inl ⟨_, hHLd, fun D hD => ?_⟩⟩
    have hB : ∀ m ∈ sk, ∀ ks, KeysOf (allKs m.2.2) ks → ks.length ≤ 100 := fun m hm ks hks => by
      by_cases hl : ks.length ≤ 100
      · exact hl
      · obtain ⟨x, hx, hnx⟩ := pigeon (l := ks) (m := allKs m.2.2) hks.1 (by have := (hz m hm).2; omega)
        exact absurd ((hks.2 x).mp hx) hnx
    refine lc2_gen (src_names hk) (fun m us => ∃ ks, us = ks.map V.str ∧ KeysOf (allKs m.2.2) ks) 100 ?_ (fun i acc => ∃ ss : List Str, acc = ss.map V.str ∧ ss.length ≤ i * 100 ∧ ∀ k, k ∈ ss ↔ ∃ m ∈ sk.take i, k ∈ allKs m.2.2) ⟨[], rfl, Nat.le_refl _, fun k => by simp⟩ ?_ hHLd hD (by rw [sizeLine_eq]; omega) (fun _ => rfl) (fun _ _ => rfl) (fun _ _ => rfl) ?_ ?_
    · rintro m us hm ⟨ks, rfl, hks⟩
      rw [List.length_map]
      exact hB m hm ks hks
    · rintro i m acc us hi ⟨ss, rfl, hls, hss⟩ ⟨ks, rfl, hks⟩
      refine ⟨ss ++ ks, by rw [List.map_append], by have := hB m (List.mem_of_getElem? hi) ks hks; rw [List.length_append, Nat.add_mul]; omega, fun k => ?_⟩
      rw [List.mem_append, take_snoc hi, hss, hks.2]
      constructor
      · rintro (⟨m', hm', h⟩ | h)
        · exact ⟨m', List.mem_append_left _ hm', h⟩
        · exact ⟨m, by simp, h⟩
      · rintro ⟨m', hm', h⟩
        rcases List.mem_append.mp hm' with hm' | hm'
        · exact .inl ⟨m', hm', h⟩
        · obtain rfl : m' = m := by simpa using hm'
          exact .inr h
    · intro m x H2 hm hd2 s2 ex hDn G hG
      subst ex
      obtain ⟨i, hi⟩ := List.mem_iff_getElem?.mp hm
      obtain ⟨v, hv, T, x1, y1, ev, hT, hx1, hy1⟩ := sk_at hk (heL.mono mn_En s2) hn hi
      subst ev
      refine ⟨_, rfl, a, _, dx, _, _, rfl, s2 _ _ haL, e.cl_Sketch, e.n_Sketch_own_seeds, f1_look _ _, _, rfl, d, _, rfl, .inl ⟨kvs, Sum.inr m.1, .inr ⟨od, hd2⟩, rfl, hv.symm⟩, ?_⟩
      refine ⟨T, _, 1, _, rfl, rfl, SqT.of hT, rfl, ?_⟩
      obtain ⟨b, rfl, dy, l, hb, hl⟩ := id hy1
      refine ⟨b, dy, _, rfl, hb, f1_no (by decide), _, m.2.2, rfl, hy1, by have := (hz m hm).2; omega, by have := (hz m hm).1; omega, fun p ks H3 hpn s3 hp hks => ?_⟩
      have hpD : p ≠ D := fun z => hDn (z ▸ hpn)
      refine ⟨p, rfl, ⟨_, SqL.of hp⟩, hG _ _ H3 _ ⟨ks, rfl, hks⟩ s3 (src_list (K := K) (H0 := del D H3) mn_isV (Each.map (fun x => x) fun _ _ => rfl)) ⟨Same.refl _, ?_⟩⟩
      rw [List.map_id']
      exact SqL.of (by rw [del_ne hpD]; exact hp)
    · rintro H2 acc s2 hD2 ⟨ss, rfl, hls, hss⟩
      have sU := unlock_same hd s2
      have hDd : D ≠ d := fun z => by rw [z, upd_same] at hD; exact nomatch hD
      have hlss : ss.length ≤ 2000 := by omega
      refine ⟨s2 _ _ hHLd, D, ss, rfl, SqL.of (by rw [upd_ne hDd]; exact hD2), by omega, fun p m hm hp => ?_⟩
      refine ⟨p, ss, m, rfl, upd_same, by omega, fun ns p2 hn2 hmem hp2 => q p2 ns _ ((sU.trans (same_upd hp)).trans (same_upd hp2)) upd_same ⟨hn2, fun k => ?_⟩⟩
      rw [hmem, hss, List.take_length]
      unfold skKs
      rw [List.mem_flatMap]
end NG

set_option Elab.async false
set_option linter.all false
set_option maxRecDepth 100000
set_option maxHeartbeats 400000
/-! Sketch.__init__ -/
namespace NG
open PySem PySem.Spec PyProof.Rows L2 He
variable {P : Program} {w : World} {K : Fg} {mg : Str → Option Value} {base : Heap}
theorem same_del {H0 H : Hp} {d : Addr} (s : Same H0 H) (n : H0 d = none) : Same H0 (del d H) := fun c o e => by
  rw [del_ne (ne_of_none e n)]; exact s _ _ e
theorem del_upd {d : Addr} {o : HO} {H : Hp} : Same (del d H) (upd H d o) := fun c u e => by
  have hc : c ≠ d := fun z => by subst z; unfold del at e; rw [if_pos rfl] at e; exact nomatch e
  rw [upd_ne hc]
  exact del_same _ _ e
theorem valV_none {kvs : List (Key × V)} {k : Key} (h : k ∉ kvs.map (·.1)) : valV kvs k = none := by
  unfold valV
  rw [Option.map_eq_none_iff, List.find?_eq_none]
  intro p hp
  simp only [decide_eq_true_eq]
  exact fun e => h (List.mem_map.mpr ⟨p, hp, e⟩)
def sumW (sk : List SkE) : Rat := (sk.map fun m => m.2.1).foldl (· + ·) 0
theorem sumW_snoc (sk : List SkE) (m : SkE) : sumW (sk ++ [m]) = sumW sk + m.2.1 := by
  unfold sumW
  rw [List.map_append, List.foldl_append]
  rfl
theorem fold_bd : ∀ (l : List Rat) (a : Rat) (n : Nat), Bd n a → (∀ b ∈ l, Bd 64 b) → Bd (n + 65 * l.length) (l.foldl (· + ·) a)
  | [], a, n, h, _ => h
  | b :: l, a, n, h, hb => by
    have h1 := fold_bd l (a + b) (n + 64 + 1) (bd_add h (hb b List.mem_cons_self)) fun c hc => hb c (List.mem_cons_of_mem _ hc)
    exact h1.mono (by rw [List.length_cons]; omega)
theorem sumW_bd {sk : List SkE} (h : ∀ m ∈ sk, Bd 64 m.2.1) : Bd (1 + 65 * sk.length) (sumW sk) := by
  have := fold_bd (sk.map fun m => m.2.1) 0 1 ⟨by decide, by decide⟩ fun b hb => by
    obtain ⟨m, hm, rfl⟩ := List.mem_map.mp hb
    exact h m hm
  rw [List.length_map] at this
  exact this
theorem sgn_pos {i : Int} (h : 0 < i) : ¬ sgn i ≤ 0 := by unfold sgn; rw [if_pos h, if_neg (by omega)]; decide
structure SkOk (sk : List SkE) : Prop where
  nd : (sk.map (·.1)).Nodup
  key : ∀ m ∈ sk, keyS m.1 = true
  one : 1 ≤ sk.length
  few : sk.length ≤ 12
  pos : ∀ m ∈ sk, 0 < m.2.1.num
  bd : ∀ m ∈ sk, Bd 64 m.2.1
  sum : sumW sk = 1
  note : ∀ m ∈ sk, m.2.2.length ≤ 100 ∧ (allKs m.2.2).length ≤ 100
  keys : ∃ l : List Str, l.length ≤ 6 ∧ ∀ k ∈ skKs sk, k ∈ l
def spSInit (K : Fg) : Sp := fun vs H Q _ => ∃ (x dx a : Addr) (ws : List V) (sk : List SkE), vs = [.ref x, .ref a] ∧ H x = some (.ins (ga K "Sketch") dx []) ∧ SqL K (del x H) a ws ∧ Each (SdR K) (del x H) ws sk ∧ SkOk sk ∧
  ∀ H', But x H H' → SkA K H' x sk → Q .non H'
abbrev nSInit : List Str := ["self", "seeds", "position", "seed", "total", "name"]
theorem sc_SInit : FnScope nSInit ["self", "seeds"] (defScope m_Sketch_init) := ⟨rfl, rfl, rfl, by decide +kernel, rfl, by decide +kernel, by decide +kernel⟩
theorem hasC_Sketch (e : Ev K mg) : HasC P w K mg base 6 "Sketch" ["self", "seeds"] [] (spSInit K) := by
  obtain ⟨fd, F⟩ := e.F_m_Sketch_init
  obtain ⟨f1', d1, m1, G1, k1, b1⟩ := has_is_list (P := P) (w := w) (base := base) e
  obtain ⟨f2, d2, m2, G2, k2, b2⟩ := has_is_seed (P := P) (w := w) (base := base) e
  obtain ⟨f3, d3, m3, G3, k3, b3⟩ := has_as_ratio (P := P) (w := w) (base := base) e
  obtain ⟨d4, ds4, M4, m4, G4, v4, b4⟩ := hasC_Ratio1 (P := P) (w := w) (base := base) e
  obtain ⟨d5, p5, G5, b5⟩ := ok_sign (P := P) (w := w) (base := base) e
  obtain ⟨d6, M6, G6, b6⟩ := hasM_radd (P := P) (w := w) (base := base) e
  obtain ⟨d7, M7, G7, b7⟩ := hasM_req (P := P) (w := w) (base := base) e
  obtain ⟨d8, M8, G8, b8⟩ := hasM_SUsed (P := P) (w := w) (base := base) e
  obtain ⟨t9, g9⟩ := e.MOST_SEEDS
  obtain ⟨t10, g10⟩ := e.MOST_KEYS
  refine ⟨fd, [], e.mk_Sketch, e.g_Sketch, ?_, .nil, F.bindsN fun _ _ _ _ _ _ us hl => match us, hl with | [_, _], _ => rfl⟩
  refine F.okD sc_SInit (fun vs H Q E h => ?_) (fun cdv A outer s H vs Q E hr h => ?_)
  · obtain ⟨x, dx, a, ws, sk, rfl, _⟩ := h; rfl
  · obtain ⟨x, dx, a, ws, sk, rfl, hx, hws, hsd, ok, q⟩ := h
    have hr1 := hr.mono (show 1 ≤ 5 by decide)
    have hr2 := hr.mono (show 2 ≤ 5 by decide)
    have hr3 := hr.mono (show 3 ≤ 5 by decide)
    have hr4 := hr.mono (show 4 ≤ 5 by decide)
    have hu := hu_of hr
    refine ⟨_, pss_cons (ps_if (PW.pt (pw_or (pt_not (pt_val (pe_call G1 hr1 rfl m1 k1 b1 .nil pass0 (pa_cons (pv 1) pa_nil)))) (pw_or1 (pt_cmpR op_eq (pe_callB call_len_seq rfl e.b_len boot_len (pa_cons (pv 1) pa_nil)) pe_int (nomark _))))) (pss_one ps_never) pss_nil)
      (pss_cons (ps_fld (pv 0) pe_dnewK rfl)
      (pss_cons (ps_for (g := gTup K 2 _) PassesOwn.never rfl (pi_enum rfl e.b_enumerate (pa_cons (pv 1) pa_nil)) (pg_tup rfl (pgs_cons (pg_name (i := 2) sc_SInit.nd rfl (Or.inl rfl)) (pgs_cons (pg_name (i := 3) sc_SInit.nd rfl (Or.inl rfl)) pgs_nil)))
        (pss_cons (ps_if (PW.pt (pw_or (pt_not (pt_val (pe_call G2 hr3 rfl m2 k2 b2 .nil pass0 (pa_cons (pv 3) pa_nil)))) (pw_or1 (pt_cmp (pc_din hu (pe_ix ix_tup (pv 3) pe_int (fun _ _ => rfl)) (pe_fld (pv 0) rfl)) rfl)))) (pss_one ps_never) pss_nil)
        (pss_one (ps_dput hu (pe_fld (pv 0) rfl) (pe_ix ix_tup (pv 3) pe_int (fun _ _ => rfl)) (pe_tup (pa_cons (pe_call G3 hr4 rfl m3 k3 b3 .nil pass0 (pa_cons (pe_ix ix_tup (pv 3) pe_int (fun _ _ => rfl)) pa_nil)) (pa_cons (pe_ix ix_tup (pv 3) pe_int (fun _ _ => rfl)) pa_nil))) rfl))))
      (pss_cons (ps_set (i := 4) sc_SInit.nd rfl (Or.inl rfl) (pe_make M4 G4 hr3 rfl m4 b4 v4 pass0 (pa_cons pe_int pa_nil)))
      (pss_cons (ps_lock (ps_for (g := gName 5) PassesOwn.never rfl (pi_keys (pe_fld (pv 0) rfl)) (pg_name (i := 5) sc_SInit.nd rfl (Or.inl rfl))
        (pss_cons (ps_if (pt_cmpR op_le (pe_prop (pe_ix ix_tup (pe_dget hu (pe_fld (pv 0) rfl) (pv 5) (fun _ _ => rfl)) pe_int (fun _ _ => rfl)) e.cl_Ratio p5 G5 hr2 b5 .nil pass0 rfl) pe_int (nomark _)) (pss_one ps_never) pss_nil)
        (pss_one (ps_set (i := 4) sc_SInit.nd rfl (Or.inl rfl) (pe_op (op_own2 G6 hr e.sf_Ratio M6.at_ M6.fn b6 pass0) (pv 4) (pe_ix ix_tup (pe_dget hu (pe_fld (pv 0) rfl) (pv 5) (fun _ _ => rfl)) pe_int (fun _ _ => rfl))))))))
      (pss_cons (ps_if (pt_cmpR (op_neO G7 hr2 e.ty_Ratio e.ne_Ratio M7.at_ M7.fn b7) (pv 4) (pe_make M4 G4 hr3 rfl m4 b4 v4 pass0 (pa_cons pe_int pa_nil)) (nomark _)) (pss_one ps_never) pss_nil)
      (pss_cons (ps_if (pt_cmpR op_gt (pe_callB call_lenD rfl e.b_len boot_len (pa_cons (pe_fld (pv 0) rfl) pa_nil)) (pe_glob rfl g9 (v := .int 12) ⟨_, rfl⟩) (nomark _)) (pss_one ps_never) pss_nil)
      (pss_one (ps_if (pt_cmpR op_gt (pe_callB call_len_seq rfl e.b_len boot_len (pa_cons (pe_meth0 (pv 0) e.cl_Sketch M8 G8 hr2 b8 .nil pass0) pa_nil)) (pe_glob rfl g10 (v := .int 6) ⟨_, rfl⟩) (nomark _)) (pss_one ps_never) pss_nil)))))))), ?_⟩
    have sD : Same (del x H) H := del_same
    have hwl : ws.length = sk.length := hsd.length
    refine ⟨_, rfl, a, rfl, .inl ⟨_, sD.seq hws⟩, fun H1 s1 => ?_⟩
    refine ⟨true, rfl, iteF ?_⟩
    refine ⟨_, rfl, a, ws, rfl, .inl ((sD.trans s1).seq hws), rfl, _, rfl, ?_⟩
    rw [decide_eq_false (show ¬ V.int ((ws.length : Nat) : Int) = V.int 0 from fun z => by injection z with z; have := ok.one; omega)]
    refine iteF ?_
    intro d hd
    have hx1 : H1 x = some (.ins (ga K "Sketch") dx []) := s1 _ _ hx
    have hxd : x ≠ d := ne_of_none hx1 hd
    have hD0 : del x H d = none := none_of (sD.trans s1) hd
    refine ⟨_, rfl, x, _, dx, _, rfl, by rw [upd_ne hxd]; exact hx1, e.cl_Sketch, e.n_Sketch_own_seeds, (by decide), ?_⟩
    show tSeq _ _ _ _ (upd (upd H1 d (.dK [])) x (.ins (ga K "Sketch") dx (f1 "own_seeds" (.ref d))))
    have sx2 : Same (del x H) (upd (upd H1 d (.dK [])) x (.ins (ga K "Sketch") dx (f1 "own_seeds" (.ref d)))) := fun c o e => by
      have hc : c ≠ x := fun z => by subst z; unfold del at e; rw [if_pos rfl] at e; exact nomatch e
      have e1 := s1 _ _ (sD _ _ e)
      rw [upd_ne hc, upd_ne (ne_of_none e1 hd)]
      exact e1
    have bx2 : But x H (upd (upd H1 d (.dK [])) x (.ins (ga K "Sketch") dx (f1 "own_seeds" (.ref d)))) := fun c o hc e => by
      have e1 := s1 _ _ e
      rw [upd_ne hc, upd_ne (ne_of_none e1 hd)]
      exact e1
    have hx2 : (upd (upd H1 d (.dK [])) x (.ins (ga K "Sketch") dx (f1 "own_seeds" (.ref d)))) x = some (.ins (ga K "Sketch") dx (f1 "own_seeds" (.ref d))) := upd_same
    have hd2 : (upd (upd H1 d (.dK [])) x (.ins (ga K "Sketch") dx (f1 "own_seeds" (.ref d)))) d = some (.dK []) := by rw [upd_ne (fun z => hxd z.symm), upd_same]
    generalize upd (upd H1 d (.dK [])) x (.ins (ga K "Sketch") dx (f1 "own_seeds" (.ref d))) = H2 at sx2 bx2 hx2 hd2 ⊢
    refine ⟨_, rfl, a, ws, rfl, sx2.seq hws, ?_⟩
    refine for_src (src_enum (R := fun _ v m => SdR K (del x H) v m) (H0 := del x H) (fun _ _ _ _ _ h => h) (hsd.imp fun _ _ _ h => h)) (fun i σ H3 => ∃ kvs x2 x3, σ = [some (.ref x), some (.ref a), x2, x3, none, none] ∧ Same (del x H) H3 ∧ But x H H3 ∧ H3 x = some (.ins (ga K "Sketch") dx (f1 "own_seeds" (.ref d))) ∧ H3 d = some (.dK kvs) ∧
        kvs.map (·.1) = ((sk.take i).map (·.1)).map Sum.inr ∧ Each (EnR K) (del d H3) (kvs.map (·.2)) (sk.take i))
      ⟨[], none, none, rfl, sx2, bx2, hx2, hd2, rfl, .nil⟩ (fun i σ H3 ⟨_, _, _, _, s3, _⟩ => ⟨s3, s3.seq hws⟩) ?_ ?_
    · rintro i ⟨j, m⟩ y σ H3 H4 hb hi ⟨kvs, x2, x3, rfl, s3, b3', hx3, hd3, hkk, hen⟩ s4 ⟨T, y1, y2, rfl, hT, e1, hR⟩
      refine ⟨T, _, rfl, SqT.of hT, rfl, _, _, rfl, _, _, rfl, rfl, ?_⟩
      have hzip := List.getElem?_zip_eq_some.mp hb
      have hmi : sk[i]? = some m := hzip.2
      have hm : m ∈ sk := List.mem_of_getElem? hmi
      have s04 := s3.trans s4
      refine ⟨_, rfl, y2, m, rfl, mn_Sd _ _ _ _ s04 hR, ok.key m hm, fun H5 s5 => ?_⟩
      refine ⟨true, rfl, iteF ?_⟩
      have s35 := s4.trans s5
      have hd5 : H5 d = some (.dK kvs) := s35 _ _ hd3
      have hx5 : H5 x = some (.ins (ga K "Sketch") dx (f1 "own_seeds" (.ref d))) := s35 _ _ hx3
      obtain ⟨U, u1, u2, rfl, hU0, hr1', hn1⟩ := hR
      have s05 := s04.trans s5
      have hU := s05 _ _ hU0
      have hnew : (Sum.inr m.1 : Key) ∉ kvs.map (·.1) := fun z => by
        rw [hkk] at z
        obtain ⟨nm, hnm, e2⟩ := List.mem_map.mp z
        obtain rfl := Sum.inr.inj e2
        have hmi' : (sk.map (·.1))[i]? = some m.1 := by rw [List.getElem?_map, hmi]; rfl
        exact sub_take ok.nd hmi' (l := (sk.take i).map (·.1)) (fun k hk => by rw [← List.map_take]; exact hk) hnm
      refine ⟨_, rfl, U, _, 0, _, rfl, rfl, SqT.of hU, rfl, _, rfl, x, _, dx, _, _, rfl, hx5, e.cl_Sketch, e.n_Sketch_own_seeds, f1_look _ _, d, none, rfl, .inl ⟨kvs, Sum.inr m.1, .inl hd5, rfl, (valV_none hnew).symm⟩, false, rfl, iteF ?_⟩
      refine ⟨_, rfl, U, _, 1, _, rfl, rfl, SqT.of hU, rfl, u1, m.2.1, rfl, .inr (mn_Rt _ _ _ _ s05 hr1'), fun u H6 s6 hu6 => ?_⟩
      refine ⟨_, rfl, U, _, 2, _, rfl, rfl, SqT.of (s6 _ _ hU), rfl, (by show 2 ≤ sizeLine; decide), fun W hW => ?_⟩
      have s7 := same_upd (o := .tup [u, u2]) hW
      have s67 := s6.trans s7
      have hd6 : H6 d = some (.dK kvs) := s6 _ _ hd5
      have hd7 : (upd H6 W (.tup [u, u2])) d = some (.dK kvs) := s7 _ _ hd6
      have hkl : kvs.length = i := by
        have := congrArg List.length hkk
        simp only [List.length_map, List.length_take] at this
        have := (List.getElem?_eq_some_iff.mp hmi).1
        omega
      have hW7 : W ≠ d := fun z => by subst z; rw [hd6] at hW; exact nomatch hW
      refine ⟨_, rfl, x, _, dx, _, _, rfl, s67 _ _ hx5, e.cl_Sketch, e.n_Sketch_own_seeds, f1_look _ _, _, rfl, U, _, 0, _, rfl, rfl, SqT.of (s67 _ _ hU), rfl, d, _, rfl, DPut.k (k := Sum.inr m.1) hd7 (by have := ok.few; have := (List.getElem?_eq_some_iff.mp hmi).1; exact small1000 (by omega)), ?_⟩
      rw [putK_new _ (valV_none hnew)]
      have s37 := s35.trans s67
      have hHd : H d = none := none_of s1 hd
      have sF : Same (del x H) (upd (upd H6 W (.tup [u, u2])) d (.dK (kvs ++ [(Sum.inr m.1, .ref W)]))) := Same.butN (s3.trans s37) hD0 But.upd
      refine ⟨kvs ++ [(Sum.inr m.1, .ref W)], _, _, rfl, sF, fun c o hc ec => ?_, by rw [upd_ne hxd]; exact s67 _ _ hx5, upd_same, ?_, ?_⟩
      · rw [upd_ne (ne_of_none ec hHd)]
        exact s37 _ _ (b3' c o hc ec)
      · rw [List.map_append, hkk, take_snoc hmi, List.map_append, List.map_append]
        rfl
      · rw [List.map_append, take_snoc hmi]
        refine (hen.mono mn_En (del_but ((But.of_same s37).trans But.upd))).append (.cons ⟨W, u, u2, rfl, ?_, ?_, mn_Note _ _ _ _ (same_del sF hD0) hn1⟩ .nil)
        · rw [del_ne hW7, upd_ne hW7, upd_same]
        · obtain ⟨c, ec, dc, hc⟩ := hu6
          have hcd : c ≠ d := fun z => by subst z; rw [hd6] at hc; exact nomatch hc
          exact ⟨c, ec, dc, by rw [del_ne hcd, upd_ne hcd]; exact s7 _ _ hc⟩
    · rintro σ H3 ⟨kvs, x2, x3, rfl, s3, b3', hx3, hd3, hkk, hen⟩
      have hzl : ((iota 0 sk.length).zip sk).length = sk.length := by rw [List.length_zip, iota_length, Nat.min_self]
      rw [hzl, List.take_length] at hkk hen
      intro xr dr nx nd hne
      refine ⟨xr, dr, 0, 1, rfl, by decide, Nat.one_lt_two_pow (by decide), upd_same, rfl, ?_⟩
      obtain ⟨sR, hR0⟩ := made_Rt (K := K) (r := ((0 : Int) : Rat)) nx nd hne
      rw [mk_int]
      show tSeq _ _ _ [some (.ref x), some (.ref a), x2, x3, some (.ref xr), none] _
      generalize (upd (upd (upd H3 dr (.own xr)) xr (.ins (ga K "Ratio") dr [])) xr (.ins (ga K "Ratio") dr (rfs ((0 : Int) : Rat).num ((0 : Int) : Rat).den))) = H4 at sR hR0 ⊢
      have bx4 := b3'.trans (But.of_same (d := x) sR)
      have hx4 := sR _ _ hx3
      have hd4 := sR _ _ hd3
      have hen4 : Each (EnR K) (del d H4) (kvs.map (·.2)) sk := hen.mono mn_En (del_but (But.of_same sR))
      refine ⟨d, _, hd4, trivial, fun od => ?_⟩
      have hxL : (upd H4 d (.frz od (.dK kvs))) x = some (.ins (ga K "Sketch") dx (f1 "own_seeds" (.ref d))) := by rw [upd_ne hxd]; exact hx4
      have hdL : (upd H4 d (.frz od (.dK kvs))) d = some (.frz od (.dK kvs)) := upd_same
      have henL : Each (EnR K) (upd H4 d (.frz od (.dK kvs))) (kvs.map (·.2)) sk := hen4.mono mn_En del_upd
      refine ⟨_, rfl, x, _, dx, _, _, rfl, hxL, e.cl_Sketch, e.n_Sketch_own_seeds, f1_look _ _, d, od, rfl, .inl ⟨_, hdL, ?_⟩⟩
      refine for_src (src_names hkk) (fun i σ H5 => ∃ v x5, σ = [some (.ref x), some (.ref a), x2, x3, some v, x5] ∧ Same (upd H4 d (.frz od (.dK kvs))) H5 ∧ Rt K H5 v (sumW (sk.take i))) ⟨.ref xr, none, rfl, Same.refl _, ?_⟩ (fun i σ H5 ⟨_, _, _, s5, _⟩ => s5 _ _ hdL) ?_ ?_
      · obtain ⟨c, ec, dc, hc⟩ := hR0
        exact ⟨c, ec, dc, by rw [upd_ne (fun z => by subst z; rw [hd4] at hc; exact nomatch hc)]; exact hc⟩
      · rintro i m y σ H5 H6 hmi hi ⟨v, x5, rfl, s5, hv⟩ s6 ey
        obtain rfl : y = .str m.1 := ey
        have hm : m ∈ sk := List.mem_of_getElem? hmi
        have s56 := s5.trans s6
        obtain ⟨v', hv', T, y1, y2, rfl, hT, hy1, hy2⟩ := sk_at hkk (henL.mono mn_En s56) ok.nd hmi
        have hg : DGet H6 d (.str m.1) (some (.ref T)) := .inl ⟨kvs, Sum.inr m.1, .inr ⟨od, s56 _ _ hdL⟩, rfl, hv'.symm⟩
        obtain ⟨ra, rfl, rx, hra⟩ := id hy1
        obtain ⟨rb, rfl, ry, hrb⟩ := mn_Rt _ _ _ _ s6 hv
        refine ⟨_, rfl, x, _, dx, _, _, rfl, s56 _ _ hxL, e.cl_Sketch, e.n_Sketch_own_seeds, f1_look _ _, _, rfl, d, _, rfl, hg, T, _, 0, _, rfl, rfl, SqT.of hT, rfl, ra, rx, _, rfl, hra, .ref ra, m.2.1, rfl, hy1, ?_⟩
        refine ⟨_, _, rfl, rfl, _, rfl, ?_⟩
        rw [decide_eq_false (sgn_pos (ok.pos m hm))]
        refine iteF ?_
        refine ⟨_, rfl, _, rfl, x, _, dx, _, _, rfl, s56 _ _ hxL, e.cl_Sketch, e.n_Sketch_own_seeds, f1_look _ _, _, rfl, d, _, rfl, hg, T, _, 0, _, rfl, rfl, SqT.of hT, rfl, ?_⟩
        have hbd := sumW_bd (sk := sk.take i) fun m' hm' => ok.bd m' (List.mem_of_mem_take hm')
        refine ⟨rb, ra, ry, rx, _, _, rfl, rfl, hrb, hra, .ref rb, .ref ra, _, m.2.1, rfl, ⟨rb, rfl, ry, hrb⟩, .inr hy1, hbd.mono ?_, (ok.bd m hm).mono (by decide), fun u H7 s7 hu7 => ?_⟩
        · have := ok.few
          rw [List.length_take]
          show 1 + 65 * min i sk.length ≤ 2000
          omega
        · refine ⟨u, _, rfl, s56.trans s7, ?_⟩
          rw [take_snoc hmi, sumW_snoc]
          exact hu7
      · rintro σ H5 ⟨v, x5, rfl, s5, hv⟩
        rw [List.take_length, ok.sum] at hv
        refine ⟨s5 _ _ hdL, ?_⟩
        have sU := unlock_same hd4 s5
        have hvU : Rt K (upd H5 d (.dK kvs)) v 1 := by
          obtain ⟨c, ec, dc, hc⟩ := hv
          exact ⟨c, ec, dc, by rw [upd_ne (fun z => by subst z; rw [s5 _ _ hdL] at hc; exact nomatch hc)]; exact hc⟩
        generalize upd H5 d (.dK kvs) = H6 at sU hvU ⊢
        refine ⟨_, rfl, fun xq dq nxq ndq hneq => ?_⟩
        refine ⟨xq, dq, 1, 1, rfl, by decide, Nat.one_lt_two_pow (by decide), upd_same, rfl, ?_⟩
        obtain ⟨sQ, hQ⟩ := made_Rt (K := K) (r := ((1 : Int) : Rat)) nxq ndq hneq
        rw [mk_int]
        generalize (upd (upd (upd H6 dq (.own xq)) xq (.ins (ga K "Ratio") dq [])) xq (.ins (ga K "Ratio") dq (rfs ((1 : Int) : Rat).num ((1 : Int) : Rat).den))) = H7 at sQ hQ ⊢
        obtain ⟨va, rfl, vx, hva⟩ := mn_Rt _ _ _ _ sQ hvU
        obtain ⟨_, e2, qx, hqa⟩ := hQ
        cases e2
        refine ⟨va, xq, vx, qx, _, _, rfl, rfl, hva, hqa, va, xq, rfl, ⟨1, ⟨vx, hva⟩, ⟨qx, hqa⟩⟩, fun H8 s8 => ⟨true, rfl, false, rfl, iteF ?_⟩⟩
        have s48 : Same H4 H8 := (sU.trans sQ).trans s8
        have hkl : kvs.length = sk.length := by simpa using congrArg List.length hkk
        refine ⟨_, rfl, x, _, dx, _, _, rfl, s48 _ _ hx4, e.cl_Sketch, e.n_Sketch_own_seeds, f1_look _ _, d, kvs, rfl, s48 _ _ hd4, _, _, rfl, rfl, _, rfl, ?_⟩
        rw [decide_eq_false (show ¬ (12 : Int) < ((kvs.length : Nat) : Int) by have := ok.few; omega)]
        refine iteF ?_
        have hsk8 : SkA K H8 x sk := ⟨dx, d, kvs, s48 _ _ hx4, s48 _ _ hd4, hkk, hen4.mono mn_En (del_same.trans s48)⟩
        refine ⟨_, rfl, x, dx, _, rfl, s48 _ _ hx4, f1_no (by decide), .ref x, sk, rfl, ⟨x, rfl, hsk8⟩, ok.nd, ok.few, ok.note, fun p ks H9 s9 hp hks => ?_⟩
        refine ⟨p, _, rfl, .inl (SqL.of hp), _, _, rfl, rfl, _, rfl, ?_⟩
        obtain ⟨l6, hl6, hin⟩ := ok.keys
        have hk6 : ks.length ≤ 6 := by
          by_cases hl : ks.length ≤ 6
          · exact hl
          · obtain ⟨y, hy, hny⟩ := pigeon (l := ks) (m := l6) hks.1 (by omega)
            exact absurd (hin y ((hks.2 y).mp hy)) hny
        rw [decide_eq_false (show ¬ (6 : Int) < (((ks.map V.str).length : Nat) : Int) by rw [List.length_map]; omega)]
        refine iteF ?_
        exact q H9 (bx4.trans (But.of_same (s48.trans s9))) (mn_SkA s9 hsk8)
end NG

set_option Elab.async false
set_option linter.all false
set_option maxRecDepth 100000
set_option maxHeartbeats 400000
/-! Sketch: seeds, want_seed, note, shows, == -/
namespace NG
open PySem PySem.Spec PyProof.Rows L2 He
theorem paired_imp {α β : Type} {F G : α → β → Prop} : ∀ {xs : List α} {ys : List β}, Paired F xs ys → (∀ a b, F a b → G a b) → Paired G xs ys
  | _, _, .nil, _ => .nil
  | _, _, .cons r t, h => .cons (h _ _ r) (paired_imp t h)
variable {P : Program} {w : World} {K : Fg} {mg : Str → Option Value} {base : Heap}
/-! ### seeds -/
theorem sc_SSeeds : FnScope ["self"] ["self"] (defScope m_Sketch_seeds) := ⟨rfl, rfl, rfl, by decide +kernel, rfl, by decide +kernel, by decide +kernel⟩
def spSSeeds (K : Fg) : Sp := fun vs H Q _ => ∃ x sk, vs = [x] ∧ SkR K H x sk ∧ ∀ a H', Same H H' → H' a = some (.lst ((sk.map (·.1)).map V.str)) → Q (.ref a) H'
theorem keys_vals {kvs : List (Key × V)} {ns : List Str} (h : kvs.map (·.1) = ns.map Sum.inr) : (kvs.map fun kv => kV kv.1) = ns.map V.str := by
  have : (kvs.map fun kv => kV kv.1) = (kvs.map (·.1)).map kV := by rw [List.map_map]; rfl
  rw [this, h, List.map_map]
  rfl
theorem hasM_SSeeds (e : Ev K mg) : HasM P w K mg base 1 "Sketch" "seeds" ["self"] (spSSeeds K) := by
  obtain ⟨fd, F⟩ := e.F_m_Sketch_seeds
  refine ⟨fd, e.me_Sketch_seeds, ?_, F.bindsN fun _ _ _ _ _ _ us hl => match us, hl with | [_], _ => rfl⟩
  refine F.okD sc_SSeeds (fun vs H Q E h => ?_) (fun cdv A outer s H vs Q E hr h => ?_)
  · obtain ⟨x, sk, rfl, _⟩ := h; rfl
  · obtain ⟨x, sk, rfl, ⟨a, rfl, dx, d, kvs, ha, hd, hk, he⟩, q⟩ := h
    refine ⟨_, pss_one (ps_ret (pe_callTy (call_listD rfl) rfl e.b_list boot_list (pa_cons (pe_fld (pv 0) rfl) pa_nil))), ?_⟩
    refine ⟨_, rfl, a, _, dx, _, _, rfl, ha, e.cl_Sketch, e.n_Sketch_own_seeds, f1_look _ _, d, kvs, rfl, .inl hd, fun p hp => ?_⟩
    rw [keys_vals hk]
    exact q p _ (same_upd hp) upd_same
/-! ### want_seed, note -/
theorem sc_SWant : FnScope ["self", "value"] ["self", "value"] (defScope m_Sketch_want_seed) := ⟨rfl, rfl, rfl, by decide +kernel, rfl, by decide +kernel, by decide +kernel⟩
def spSWant (K : Fg) : Sp := fun vs H Q _ => ∃ x sk m, vs = [x, .str m.1] ∧ SkR K H x sk ∧ (sk.map (·.1)).Nodup ∧ m ∈ sk ∧ keyS m.1 = true ∧ ∀ H', Same H H' → Q .non H'
theorem hasM_SWant (e : Ev K mg) : HasM P w K mg base 2 "Sketch" "want_seed" ["self", "value"] (spSWant K) := by
  obtain ⟨fd, F⟩ := e.F_m_Sketch_want_seed
  refine ⟨fd, e.me_Sketch_want_seed, ?_, F.bindsN fun _ _ _ _ _ _ us hl => match us, hl with | [_, _], _ => rfl⟩
  obtain ⟨f1', d1, m1, G1, k1, b1⟩ := has_is_key (P := P) (w := w) (base := base) e
  refine F.okD sc_SWant (fun vs H Q E h => ?_) (fun cdv A outer s H vs Q E hr h => ?_)
  · obtain ⟨x, sk, m, rfl, _⟩ := h; rfl
  · obtain ⟨x, sk, m, rfl, ⟨a, rfl, dx, d, kvs, ha, hd, hk, he⟩, hn, hm, hkey, q⟩ := h
    refine ⟨_, pss_one (ps_if (PW.pt (pw_or (pt_not (pt_val (pe_call G1 hr rfl m1 k1 b1 .nil pass0 (pa_cons (pv 1) pa_nil)))) (pw_or1 (pt_cmp (pc_dnotin (hu_of hr) (pv 1) (pe_fld (pv 0) rfl)) rfl)))) (pss_one ps_never) pss_nil), ?_⟩
    obtain ⟨i, hi⟩ := List.mem_iff_getElem?.mp hm
    obtain ⟨v, hv, _⟩ := sk_at hk he hn hi
    refine ⟨_, rfl, .str m.1, rfl, .inl ⟨m.1, rfl, Nat.le_trans (keyS_len hkey) (by decide), fun H1 s1 => ?_⟩⟩
    rw [hkey]
    refine ⟨true, rfl, iteF ?_⟩
    exact ⟨_, rfl, _, rfl, a, _, dx, _, _, rfl, s1 _ _ ha, e.cl_Sketch, e.n_Sketch_own_seeds, f1_look _ _, d, some v, rfl, .inl ⟨kvs, Sum.inr m.1, .inl (s1 _ _ hd), rfl, hv.symm⟩, false, rfl, iteF (q _ s1)⟩
theorem sc_SNote : FnScope ["self", "seed"] ["self", "seed"] (defScope m_Sketch_note) := ⟨rfl, rfl, rfl, by decide +kernel, rfl, by decide +kernel, by decide +kernel⟩
def spSNote (K : Fg) : Sp := fun vs H Q _ => ∃ x sk m, vs = [x, .str m.1] ∧ SkR K H x sk ∧ (sk.map (·.1)).Nodup ∧ m ∈ sk ∧ keyS m.1 = true ∧ ∀ u H', Same H H' → NoteR K H' u m.2.2 → Q u H'
theorem hasM_SNote (e : Ev K mg) : HasM P w K mg base 3 "Sketch" "note" ["self", "seed"] (spSNote K) := by
  obtain ⟨fd, F⟩ := e.F_m_Sketch_note
  refine ⟨fd, e.me_Sketch_note, ?_, F.bindsN fun _ _ _ _ _ _ us hl => match us, hl with | [_, _], _ => rfl⟩
  obtain ⟨d1, M1, G1, b1⟩ := hasM_SWant (P := P) (w := w) (base := base) e
  refine F.okD sc_SNote (fun vs H Q E h => ?_) (fun cdv A outer s H vs Q E hr h => ?_)
  · obtain ⟨x, sk, m, rfl, _⟩ := h; rfl
  · obtain ⟨x, sk, m, rfl, hsk, hn, hm, hkey, q⟩ := h
    refine ⟨_, pss_cons (ps_expr (pe_meth (pv 0) e.cl_Sketch M1 G1 hr b1 .nil pass0 (pa_cons (pv 1) pa_nil)))
      (pss_one (ps_ret (pe_ix ix_tup (pe_dget (hu_of hr) (pe_fld (pv 0) rfl) (pv 1) (fun _ _ => rfl)) pe_int (fun _ _ => rfl)))), ?_⟩
    obtain ⟨a, rfl, dx, d, kvs, ha, hd, hk, he⟩ := id hsk
    refine ⟨_, rfl, a, dx, _, rfl, ha, f1_no (by decide), _, rfl, .ref a, sk, m, rfl, hsk, hn, hm, hkey, fun H1 s1 => ?_⟩
    obtain ⟨i, hi⟩ := List.mem_iff_getElem?.mp hm
    obtain ⟨v, hv, T, y1, y2, rfl, hT, _, hy2⟩ := sk_at hk (he.mono mn_En s1) hn hi
    exact ⟨_, rfl, a, _, dx, _, _, rfl, s1 _ _ ha, e.cl_Sketch, e.n_Sketch_own_seeds, f1_look _ _, _, rfl, d, .ref T, rfl, .inl ⟨kvs, Sum.inr m.1, .inl (s1 _ _ hd), rfl, hv.symm⟩, T, _, 1, _, rfl, rfl, SqT.of hT, rfl, q y2 _ s1 hy2⟩
/-! ### shows -/
theorem sc_SShows : FnScope ["self", "seed", "table"] ["self", "seed", "table"] (defScope m_Sketch_shows) := ⟨rfl, rfl, rfl, by decide +kernel, rfl, by decide +kernel, by decide +kernel⟩
def spSShows (K : Fg) : Sp := fun vs H Q _ => ∃ x y sk m t, vs = [x, .str m.1, y] ∧ SkR K H x sk ∧ (sk.map (·.1)).Nodup ∧ m ∈ sk ∧ keyS m.1 = true ∧ TabR K H y t ∧ SmallN m.2.2 ∧ SmallT szT t ∧
  ∀ (T : Addr) (H' : Hp), Same H H' → H' T = some (.tup ((shownR m.2.2 t).map V.int)) → Q (.ref T) H'
theorem hasM_SShows (e : Ev K mg) : HasM P w K mg base 4 "Sketch" "shows" ["self", "seed", "table"] (spSShows K) := by
  obtain ⟨fd, F⟩ := e.F_m_Sketch_shows
  refine ⟨fd, e.me_Sketch_shows, ?_, F.bindsN fun _ _ _ _ _ _ us hl => match us, hl with | [_, _, _], _ => rfl⟩
  obtain ⟨d1, M1, G1, b1⟩ := hasM_SNote (P := P) (w := w) (base := base) e
  obtain ⟨d2, M2, G2, b2⟩ := hasM_NShows (P := P) (w := w) (base := base) e
  refine F.okD sc_SShows (fun vs H Q E h => ?_) (fun cdv A outer s H vs Q E hr h => ?_)
  · obtain ⟨x, y, sk, m, t, rfl, _⟩ := h; rfl
  · obtain ⟨x, y, sk, m, t, rfl, hsk, hn, hm, hkey, hy, hs1, hs2, q⟩ := h
    refine ⟨_, pss_one (ps_ret (pe_meth (pe_meth (pv 0) e.cl_Sketch M1 G1 hr b1 .nil pass0 (pa_cons (pv 1) pa_nil)) e.cl_Note M2 G2 hr b2 .nil pass0 (pa_cons (pv 2) pa_nil))), ?_⟩
    obtain ⟨a, rfl, dx, d, kvs, ha, _⟩ := id hsk
    refine ⟨_, rfl, a, dx, _, rfl, ha, f1_no (by decide), _, rfl, .ref a, sk, m, rfl, hsk, hn, hm, hkey, fun u H1 s1 hu => ?_⟩
    obtain ⟨b, rfl, dy, l, hb, _⟩ := id hu
    exact ⟨b, dy, _, rfl, hb, f1_no (by decide), _, rfl, .ref b, y, m.2.2, t, rfl, hu, mn_Tab _ _ _ _ s1 hy, hs1, hs2, fun T H2 s2 hT => q T H2 (s1.trans s2) hT⟩
/-! ### == -/
def AlikeE (m1 m2 : SkE) : Prop := m1.1 = m2.1 ∧ m1.2.1 = m2.2.1 ∧ AlikeN m1.2.2 m2.2.2
def AlikeS (s1 s2 : List SkE) : Prop := Paired AlikeE s1 s2
def SkEq (K : Fg) (a b : Addr) (H : Hp) : Prop := ∃ s1 s2, SkA K H a s1 ∧ SkA K H b s2 ∧ AlikeS s1 s2
def REq (K : Fg) (a b : Addr) (H : Hp) : Prop := ∃ r, RtA K H a r ∧ RtA K H b r
def DEn (K : Fg) : Eqv := DTup K fun x y H => DIns (ga K "Ratio") (REq K) x y H ∨ DIns (ga K "Note") (NoteEq K) x y H
def DIt (K : Fg) : Eqv := DTup K fun x y H => DFlat x y H ∨ DEn K x y H
theorem mn_NoteA {H H' : Hp} {a : Addr} {n : List Row} (s : Same H H') (h : NoteA K H a n) : NoteA K H' a n := let ⟨dx, l, h, t⟩ := h; ⟨dx, l, s _ _ h, t.mono mn_Row s⟩
theorem mon_req : Mon (DIns (ga K "Ratio") (REq K)) := mon_ins fun a b H H' e ⟨r, ⟨dx, h1⟩, ⟨dy, h2⟩⟩ => ⟨r, ⟨dx, e _ _ h1⟩, ⟨dy, e _ _ h2⟩⟩
theorem mon_neq : Mon (DIns (ga K "Note") (NoteEq K)) := mon_ins fun a b H H' e ⟨n1, n2, h1, h2, h⟩ => ⟨n1, n2, mn_NoteA e h1, mn_NoteA e h2, h⟩
theorem mon_en : Mon (DEn K) := mon_tup (mon_req.or mon_neq)
theorem mon_it : Mon (DIt K) := mon_tup (mon_flat.or mon_en)
theorem rcG_items {X : Cx} (e : Ev X.K X.mg) : RcG X 5 (DList (DIt X.K)) := by
  obtain ⟨d7, M7, G7, b7⟩ := hasM_req (P := X.prog) (w := X.w) (base := X.base) e
  obtain ⟨d8, M8, G8, b8⟩ := hasM_NEq (P := X.prog) (w := X.w) (base := X.base) e
  have h1 : EqG X 1 (DIns (ga X.K "Ratio") (REq X.K)) := eqG_ins (E := E0) G7 M7.at_ M7.fn b7 pass0
  have h2 : EqG X 2 (DIns (ga X.K "Note") (NoteEq X.K)) := eqG_ins (E := E0) G8 M8.at_ M8.fn b8 pass0
  have h3 : EqG X 3 (DEn X.K) := eqG_tup (mon_req.or mon_neq) ((h1.mono (by decide)).or h2)
  have h4 : EqG X 4 (DIt X.K) := eqG_tup (mon_flat.or mon_en) ((eqG_flat.mono (by decide)).or h3)
  exact rcG_list mon_it h4
theorem en_eq {H : Hp} {v u : V} {m1 m2 : SkE} (h1 : EnR K H v m1) (h2 : EnR K H u m2) (h : AlikeE m1 m2) : DEn K v u H := by
  obtain ⟨T, x, y, rfl, hT, ⟨a, rfl, dx, ha⟩, ⟨b, rfl, hb⟩⟩ := h1
  obtain ⟨U, x', y', rfl, hU, ⟨a', rfl, dx', ha'⟩, ⟨b', rfl, hb'⟩⟩ := h2
  obtain ⟨e1, e2, e3⟩ := h
  have hb1 := hb
  have hb2 := hb'
  obtain ⟨dy, l, hb3, _⟩ := hb1
  obtain ⟨dy', l', hb4, _⟩ := hb2
  refine ⟨T, U, _, _, rfl, rfl, SqT.of hT, SqT.of hU, .cons (.inl ⟨a, a', dx, dx', _, _, rfl, rfl, ha, ha', m1.2.1, ⟨dx, ha⟩, ⟨dx', ?_⟩⟩) (.cons (.inr ⟨b, b', dy, dy', _, _, rfl, rfl, hb3, hb4, _, _, hb, hb', e3⟩) .nil)⟩
  rw [e2]
  exact ha'
theorem items_eq {H : Hp} : ∀ {ts us : List Addr} {ks ls : List (Key × V)} {s1 s2 : List SkE}, Paired (fun (t : Addr) (q : Key × V) => H t = some (.tup [kV q.1, q.2])) ts ks → Paired (fun (t : Addr) (q : Key × V) => H t = some (.tup [kV q.1, q.2])) us ls →
    ks.map (·.1) = (s1.map (·.1)).map Sum.inr → ls.map (·.1) = (s2.map (·.1)).map Sum.inr → Each (EnR K) H (ks.map (·.2)) s1 → Each (EnR K) H (ls.map (·.2)) s2 → AlikeS s1 s2 → Prs (DIt K) (ts.map V.ref) (us.map V.ref) H
  | _, _, _, _, [], _, .nil, .nil, _, _, _, _, _ => .nil
  | _, _, _, _, [], _, .nil, .cons _ _, _, h2, _, _, .nil => by simp at h2
  | _, _, _, _, [], _, .cons _ _, _, h1, _, _, _, _ => by simp at h1
  | _, _, _, _, m1 :: s1, m2 :: s2, .nil, _, h1, _, _, _, _ => by simp at h1
  | _, _, _, _, m1 :: s1, m2 :: s2, .cons _ _, .nil, _, h2, _, _, _ => by simp at h2
  | t :: ts, u :: us, k :: ks, l :: ls, m1 :: s1, m2 :: s2, .cons p1 q1, .cons p2 q2, h1, h2, .cons r1 t1, .cons r2 t2, .cons g gs => by
    simp only [List.map_cons, List.cons.injEq] at h1 h2
    refine .cons ⟨t, u, _, _, rfl, rfl, SqT.of p1, SqT.of p2, .cons (.inl ?_) (.cons (.inr (en_eq r1 r2 g)) .nil)⟩ (items_eq q1 q2 h1.2 h2.2 t1 t2 gs)
    rw [h1.1, h2.1, g.1]
    exact ⟨rfl, rfl, by show (m2.1 == m2.1) = true; exact beq_self_eq_true _⟩
theorem sc_SEq : FnScope ["self", "other"] ["self", "other"] (defScope m_Sketch_eq) := ⟨rfl, rfl, rfl, by decide +kernel, rfl, by decide +kernel, by decide +kernel⟩
theorem hasM_SEq (e : Ev K mg) : HasM P w K mg base 6 "Sketch" "__eq__" ["self", "other"] (spEq (SkEq K)) := by
  obtain ⟨fd, F⟩ := e.F_m_Sketch_eq
  refine ⟨fd, e.me_Sketch_eq, ?_, F.bindsN fun _ _ _ _ _ _ us hl => match us, hl with | [_, _], _ => rfl⟩
  refine F.okD sc_SEq (fun vs H Q E h => ?_) (fun cdv A outer s H vs Q E hr h => ?_)
  · obtain ⟨a, b, rfl, _⟩ := h; rfl
  · obtain ⟨a, b, rfl, ⟨s1, s2, ⟨dx, d, ks, ha, hd, hk, he⟩, ⟨dy, d', ls, hb, hd', hl, hf⟩, hal⟩, q⟩ := h
    refine ⟨_, pss_one (ps_ret (pe_and (pe_callB call_isi rfl e.b_isinstance boot_isinstance (pa_cons (pv 1) (pa_cons (pe_glob rfl e.g_Sketch (v := .ref (ga K "Sketch")) rfl) pa_nil)))
      (pe_one (pe_cmpR (op_eqG (n := 5) (D := DList (DIt K)) (rcG_items e) hr) (LiI.pe_listItems rfl (pe_fld (pv 0) rfl) rfl e.b_list boot_list) (LiI.pe_listItems rfl (pe_fld (pv 1) rfl) rfl e.b_list boot_list) (nomark _))))), ?_⟩
    refine ⟨_, rfl, _, _, _, _, _, rfl, .own _, .base (e.ty_Sketch.ty hb), e.k_Sketch_Sketch, true, rfl, iteT ?_⟩
    refine ⟨_, rfl, a, _, dx, _, _, rfl, ha, e.cl_Sketch, e.n_Sketch_own_seeds, f1_look _ _, d, ks, rfl, hd, fun H1 p ts x1 _ _ _ hp hts => ?_⟩
    refine ⟨_, rfl, b, _, dy, _, _, rfl, x1 _ _ hb, e.cl_Sketch, e.n_Sketch_own_seeds, f1_look _ _, d', ls, rfl, x1 _ _ hd', fun H2 p' us x2 _ _ _ hp' hus => ?_⟩
    have x12 : Same H H2 := fun c o z => x2 _ _ (x1 _ _ z)
    have hts2 : Paired (fun (t : Addr) (q : Key × V) => H2 t = some (.tup [kV q.1, q.2])) ts ks := paired_imp hts fun _ _ z => x2 _ _ z
    refine ⟨⟨p, p', _, _, rfl, rfl, x2 _ _ hp, hp', items_eq hts2 hus hk hl (he.mono mn_En x12) (hf.mono mn_En x12) hal⟩, fun H3 x3 => q H3 fun c o z => x3 _ _ (x12 _ _ z)⟩
end NG

set_option Elab.async false
set_option linter.all false
set_option maxRecDepth 100000
set_option maxHeartbeats 400000
/-! == of two dicts with tuple keys -/
namespace NG
open PySem PySem.Spec PyProof.Rows L2 He
section
variable {X : Cx} {n : Nat} {D : Eqv}
/-- each pair of the first is found in the second -/
def Hits (D : Eqv) (ka kb : List (List Key × V)) (H : Hp) : Prop := ka.length = kb.length ∧ ∀ p ∈ ka, ∃ v, (p.1, v) ∈ kb ∧ D p.2 v H
theorem Hits.mon (hD : Mon D) {ka kb : List (List Key × V)} {H H' : Hp} (h : Hits D ka kb H) (e : Ext H H') : Hits D ka kb H' :=
  ⟨h.1, fun p hp => let ⟨v, hv, d⟩ := h.2 p hp; ⟨v, hv, hD _ _ _ _ e d⟩⟩
theorem paired_get' {α β : Type} {G : α → β → Prop} : ∀ {l₁ : List α} {l₂ : List β}, Paired G l₁ l₂ → ∀ {i : Nat} {b : β}, l₂[i]? = some b → ∃ a, l₁[i]? = some a ∧ G a b
  | _, _, .nil, i, b, e => by simp at e
  | _, _, .cons r t, 0, b, e => by
    simp at e
    subst e
    exact ⟨_, rfl, r⟩
  | _, _, .cons r t, i + 1, b, e => by
    simp only [List.getElem?_cons_succ] at e ⊢
    exact paired_get' t e
theorem same_pairsT {nm : String} {a b : Addr} {oa ob : Obj} {ka kb : List (List Key × V)} {A : Around} {pins : List (Addr × Obj)} {σ : L2.St} {H : Hp} {s : Shared} {Q : Bool → Shared → Prop} (hD : Mon D) (h : EqG X n D) (sb : Sub X n A)
    (I : Inv X pins σ H s) (ha : H a = some (.frz oa (.dT ka))) (hb : H b = some (.frz ob (.dT kb))) (hits : Hits D ka kb H) (hQ : ∀ H' s', Ext H H' → Inv X pins σ H' s' → Q true s') :
    wpAny (model X.prog X.w) A (Builtin.Dict.samePairs nm a b) Q X.xe s := by
  obtain ⟨e1, za, ya, xs, ra, o1, es, ep, f1, _, hda, hes, nda⟩ := I.hok a _ ha
  obtain ⟨e2, zb, yb, ys, rb, o2, es', ep', f2, _, hdb, hes', ndb⟩ := I.hok b _ hb
  have q1 := e1.symm.trans f1
  cases q1
  have q2 := e2.symm.trans f2
  cases q2
  have hla : es.size = ka.length := (size_of_entries hes).trans (Paired.length ra).symm
  have hlb : es'.size = kb.length := (size_of_entries hes').trans (Paired.length rb).symm
  have hsz : es.size = es'.size := by rw [hla, hlb, hits.1]
  have get1 : ∀ {H' : Hp} {s' : Shared}, Ext H H' → Inv X pins σ H' s' → s'.heap.get? a = some oa := fun e I' => (I'.hok a _ (e _ _ ha)).1
  have get2 : ∀ {H' : Hp} {s' : Shared}, Ext H H' → Inv X pins σ H' s' → s'.heap.get? b = some ob := fun e I' => (I'.hok b _ (e _ _ hb)).1
  unfold Builtin.Dict.samePairs Builtin.Dict.showsAll
  rw [if_neg (show ¬ (a == sysModules) = true by rw [ya]; exact Bool.false_ne_true), if_neg (show ¬ (b == sysModules) = true by rw [yb]; exact Bool.false_ne_true)]
  refine wpAny_bind (wpAny_pure (wpAny_bind (wpAny_pure ?_)))
  refine wpAny_bind (wpAny_dictEntries e1 hda ?_)
  dsimp only
  refine wpAny_bind (wpAny_dictEntries e2 hdb ?_)
  rw [if_neg (by rw [hsz]; simp)]
  refine wpAny_bind (wpAny_dictEpoch e1 hda ?_)
  refine wpAny_bind ?_
  rw [Std.Legacy.Range.forIn_eq_forIn_range']
  simp only [Std.Legacy.Range.size, Nat.sub_zero, Nat.add_sub_cancel, Nat.div_one]
  refine wpAny_forIn_list _
    (fun rest q s' => q = (none, ()) ∧ ∃ i H', rest = List.range' i (es.size - i) ∧ i ≤ es.size ∧ Ext H H' ∧ Inv X pins σ H' s')
    _ ?_ ?_ _ _ ⟨rfl, 0, H, by simp, Nat.zero_le _, Ext.rfl', I⟩
  · rintro x rest q s' ⟨rfl, i, H', hr, hi, ex, I'⟩
    have hlt : i < es.size := by
      rcases Nat.lt_or_ge i es.size with h | h
      · exact h
      · rw [Nat.sub_eq_zero_of_le h] at hr; simp at hr
    obtain ⟨rfl, hrest⟩ : x = i ∧ rest = List.range' (i + 1) (es.size - (i + 1)) := by
      have e : es.size - i = (es.size - (i + 1)) + 1 := by omega
      rw [e, List.range'_succ] at hr
      injection hr with h1 h2
      exact ⟨h1, h2⟩
    refine wpAny_bind (wpAny_dictEntries (get1 ex I') hda ?_)
    have hlt' : x < ka.length := by rw [← hla]; exact hlt
    obtain ⟨xe, hxe, c1, c2, c3⟩ := paired_get ra (List.getElem?_eq_getElem hlt')
    have hex : es[x]? = some (entryOfKey (tupleKind (mixKind X.prog X.w)) xe) := by rw [entry_at hes x, hxe]; rfl
    rw [hex]
    show wpAny _ _ (holding [Value.ref xe.2.1, xe.2.2] _ >>= _) _ _ _
    have hk1 : (tupleKind (mixKind X.prog X.w)).is s'.heap xe.1 xe.2.1 := key_of I'.hok (by rw [← c1]; exact ex _ _ c2)
    have hkb : ∀ y ∈ ys, (tupleKind (mixKind X.prog X.w)).is s'.heap y.1 y.2.1 := fun y hy => by
      obtain ⟨j, hj, ey⟩ := List.mem_iff_getElem.mp hy
      obtain ⟨p, hp, d1, d2, _⟩ := paired_get' rb (i := j) (b := y) (by rw [List.getElem?_eq_getElem hj, ey])
      exact key_of I'.hok (by rw [← d1]; exact ex _ _ d2)
    obtain ⟨v', hv', dv⟩ := hits.2 ka[x] (List.getElem_mem hlt')
    obtain ⟨j0, hj0, ej0⟩ := List.mem_iff_getElem.mp hv'
    obtain ⟨ye, hye, d1, d2, d3⟩ := paired_get rb (i := j0) (a := (ka[x].1, v')) (by rw [List.getElem?_eq_getElem hj0, ej0])
    have ek : xe.1 = ye.1 := by rw [← c1, ← d1]
    refine wpAny_bind (wpAny_holding (wpAny_bind (wpAny_dictFind_heap (knd := tupleKind (mixKind X.prog X.w)) (k := xe.1) (xs := ys) (show (tupleKind (mixKind X.prog X.w)).room A from sb.room.units0) hk1 (get2 ex I') hdb hes' hkb ndb (fun hn => ?_) (fun j p hj => ?_))))
    · exact absurd (by rw [hye, ek]) (hn j0 ye.2)
    · have hj' : es'[j]? = some (entryOfKey (tupleKind (mixKind X.prog X.w)) (xe.1, p)) := by rw [entry_at hes' j, hj]; rfl
      have ep2 : p = ye.2 := by
        have hy2 : ys[j0]? = some (xe.1, ye.2) := by rw [hye, ek]
        have := PySem.idxH_unique ndb hj hy2
        subst this
        rw [hj] at hy2
        cases hy2
        rfl
      refine wpAny_bind (wpAny_dictEntries (get2 ex I') hdb ?_)
      rw [hj']
      show wpAny _ _ (holding [p.2] (eqBool xe.2.2 p.2)) _ _ _
      refine wpAny_holding ?_
      refine wpAny_mono (h A pins s' σ H' ka[x].2 v' xe.2.2 p.2 sb I' c3 (by rw [ep2]; exact d3) (hD _ _ _ _ ex dv)) (fun r s2 q => ?_) fun _ _ x => x
      obtain ⟨rfl, H2, I2, ex2⟩ := q
      show wpAny _ _ (if (!true) = true then _ else _) _ _ _
      rw [if_neg (by decide)]
      refine wpAny_bind (wpAny_dictEpoch (get1 (ex.trans ex2) I2) hda ?_)
      rw [if_neg (by simp)]
      exact wpAny_pure ⟨rfl, x + 1, H2, hrest, hlt, ex.trans ex2, I2⟩
  · rintro q s' ⟨rfl, i, H', hr, hi, ex, I'⟩
    exact wpAny_pure (hQ H' s' ex I')
/-- two dicts with tuple keys -/
def DDt (D : Eqv) : Eqv := fun x y H => ∃ a b ka kb, x = .ref a ∧ y = .ref b ∧ H a = some (.dT ka) ∧ H b = some (.dT kb) ∧ Hits D ka kb H
theorem mon_dt (hD : Mon D) : Mon (DDt D) := fun x y H H' e d => by
  obtain ⟨a, b, ka, kb, hx, hy, h1, h2, p⟩ := d
  exact ⟨a, b, ka, kb, hx, hy, e _ _ h1, e _ _ h2, p.mon hD e⟩
/-- what D says stays while a dict is locked -/
def Lks (D : Eqv) : Prop := ∀ x y H d o kvs, H d = some (.dT kvs) → D x y H → D x y (upd H d (.frz o (.dT kvs)))
theorem unlock_ext {d : Addr} {od : Obj} {u : HO} {H H' : Hp} (h : H d = some u) (e : Ext (upd H d (.frz od u)) H') : Ext H (upd H' d u) := fun b o q => by
  by_cases hb : b = d
  · subst hb
    rw [h] at q
    cases q
    exact upd_same
  · rw [upd_ne hb]
    exact e _ _ (by rw [upd_ne hb]; exact q)
theorem rcG_dt (hD : Mon D) (hl : Lks D) (h : EqG X n D) : RcG X (n + 1) (DDt D) := by
  intro A pins s σ H x y u v sb I rx ry d
  obtain ⟨a, b, ka, kb, rfl, rfl, ha, hb, hits⟩ := d
  cases rx
  cases ry
  obtain ⟨_, ya, _, _, o1, _, _, f1, x1, _⟩ := (show ObjOk X.prog X.w H s.heap a (.dT ka) from I.hok a _ ha)
  obtain ⟨_, yb, _, _, o2, _, _, f2, x2, _⟩ := (show ObjOk X.prog X.w H s.heap b (.dT kb) from I.hok b _ hb)
  have t1 : s.TypeIs (.ref a) "dict" := ⟨o1, f1, x1.1⟩
  have t2 : s.TypeIs (.ref b) "dict" := ⟨o2, f2, x2.1⟩
  refine wpAny_richCompare_same_room (op := .Eq) t1 t2 PySem.F.slot_dict_eq (wpAny_call_entry PySem.F.slot_dict_eq t1 PySem.F.entry_dict_eq ?_ (PySem.F.args_dict_eq_2 _ _)) sb.room.units0
  show wpAny _ _ (Builtin.Dict.dictSlotArgs "__eq__" ⟨[.ref a, .ref b], []⟩ >>= _) _ _ s
  refine wpAny_bind ?_
  unfold Builtin.Dict.dictSlotArgs
  refine wpAny_bind (wpAny_notOrdered_dict t1 ?_)
  show wpAny _ _ (pure (Value.ref a, Value.ref b)) _ _ s
  refine wpAny_pure ?_
  refine wpAny_bind (wpAny_isInstance (T := "dict") t2 PySem.F.sub_dict_dict ?_)
  simp only [Bool.not_true, Bool.false_eq_true, if_false]
  refine wpAny_bind (wpAny_pure (wpAny_bind (wpAny_pure ?_)))
  obtain ⟨oa, I1⟩ := I.lock ha trivial
  have nfa := I.nofrz ha trivial
  by_cases hab : a = b
  · subst hab
    rw [ha] at hb
    cases hb
    refine wpAny_bind (same_pairsT (A := A.in1) (H := upd H a (.frz oa (.dT ka))) hD h sb.in1 I1 upd_same upd_same ⟨hits.1, fun p hp => let ⟨v, hv, d⟩ := hits.2 p hp; ⟨v, hv, hl _ _ _ _ _ _ ha d⟩⟩ fun H' s' e I' => ?_)
    refine wpAny_pure ⟨_, rfl, ?_⟩
    refine ⟨(fun x => nomatch x), rfl, upd H' a (.dT ka), I'.unlock (e _ _ upd_same) nfa, unlock_ext ha e⟩
  · have hb1 : upd H a (.frz oa (.dT ka)) b = some (.dT kb) := by rw [upd_ne (Ne.symm hab)]; exact hb
    obtain ⟨ob, I2⟩ := I1.lock hb1 trivial
    have nfb := I.nofrz hb trivial
    refine wpAny_bind (same_pairsT (A := A.in1) (H := upd (upd H a (.frz oa (.dT ka))) b (.frz ob (.dT kb))) hD h sb.in1 I2 (by rw [upd_ne hab, upd_same]) upd_same ⟨hits.1, fun p hp => let ⟨v, hv, d⟩ := hits.2 p hp; ⟨v, hv, hl _ _ _ _ _ _ hb1 (hl _ _ _ _ _ _ ha d)⟩⟩ fun H' s' e I' => ?_)
    have e1 := unlock_ext hb1 e
    refine wpAny_pure ⟨_, rfl, ?_⟩
    refine ⟨(fun x => nomatch x), rfl, upd (upd H' b (.dT kb)) a (.dT ka), (I'.unlock (e _ _ upd_same) nfb).unlock (e1 _ _ upd_same) nfa, unlock_ext ha e1⟩
end
end NG

set_option Elab.async false
set_option linter.all false
set_option maxRecDepth 100000
set_option maxHeartbeats 400000
/-! sorted(products, key=product_key) -/
namespace NG
open PySem PySem.Spec PyProof.Rows L2 He
open PySem.W (KeyPure EachIs)
section
variable {X : Cx}
theorem ld_var {E : Value → Shared → Prop} {pins : List (Addr × Obj)} {s : Shared} {σ : L2.St} {H : Hp} {i : Nat} {x : Str} {v : V} {pos : Pos} {Q : Value → Shared → Prop} (I : Inv X pins σ H s) (hN : X.N[i]? = some x) (e : σ[i]? = some (some v)) (hv : Vis X.env.scope x) (h : ∀ u, RelV v u → Q u s)
    (hd : (x == ("__debug__" : Str)) = false := by decide) (hcd : (x == ("__classdict__" : Str)) = false := by decide) : wpAny (model X.prog X.w) X.A (eval (.Name x pos) X.env) Q E s := by
  obtain ⟨m, hn, hl⟩ := I.loc
  obtain ⟨u, r, l⟩ := hl i x v hN e hv
  rcases l with ⟨hk, hm⟩ | ⟨hk, c, hc, hcell⟩
  · exact wpAny_Name (wpAny_loadName_local I.ok.kind hk hn hm (h u r)) hd
  · rcases hk with hk | hk
    · exact wpAny_Name (wpAny_loadName_cell I.ok.kind hk hc hcell (h u r)) hd
    · exact wpAny_Name (wpAny_loadName_free I.ok.kind hk hc hcell (h u r) hcd) hd
theorem reads_strs {h : Heap} : ∀ {p : List Str} {us : List Value}, Vals (p.map V.str) us → ReadsAll h us (p.map PyData.str) []
  | [], _, .nil => .nil
  | x :: p, _, .cons r t => by
    obtain ⟨tk, rfl⟩ := r
    exact .cons (as := []) (bs := []) (.str x tk) (reads_strs t)
theorem alike_strs : ∀ xs ys : List Str, PySem.W.alikeAll (xs.map PyData.str) (ys.map PyData.str) = true
  | [], _ => by simp [PySem.W.alikeAll]
  | _ :: _, [] => by simp [PySem.W.alikeAll]
  | x :: xs, y :: ys => by
    show PySem.W.alikeAll (.str x :: xs.map .str) (.str y :: ys.map .str) = true
    rw [PySem.W.alikeAll, alike_strs xs ys]
    simp [PySem.W.alike]
theorem depth_strs : ∀ xs : List Str, PyData.depthAll (xs.map .str) = 0
  | [] => by simp [PyData.depthAll]
  | x :: xs => by
    show PyData.depthAll (.str x :: xs.map .str) = 0
    simp [PyData.depthAll, depth_strs xs, PyData.depth]
/-- the key of a product -/
def keyD (p : List Str) : PyData := .tuple [.int (p.length : Nat), .tuple (p.map .str)]
theorem depth_key (p : List Str) : (keyD p).depth ≤ 2 := by
  simp [keyD, PyData.depth, PyData.depthAll, depth_strs]
theorem sc_product_key : FnScope ["product"] ["product"] (defScope f_product_key) := ⟨rfl, rfl, rfl, by decide +kernel, rfl, by decide +kernel, by decide +kernel⟩
/-- product_key(q): all that was there stays -/
theorem key_pure {P : Program} {w : World} {K : Fg} {mg : Str → Option Value} {base : Heap} (e : Ev K mg) {A : Around} {outer : List Env} {s : Shared} {H : Hp} {q : Addr} {p : List Str} {f : Addr} (hf : mg "product_key" = some (.ref f)) (hr : Room 1 A) (e0 : Env0 P w K mg base A outer s H)
    (hq : H q = some (.tup (p.map V.str))) : wpAny (model P w) A (call (.ref f) [.ref q]) (KeyPure (keyD p) s) (fun _ _ => False) s := by
  obtain ⟨fd, F⟩ := e.F_f_product_key
  have hff := hf.symm.trans e.g_product_key
  cases hff
  have hb0 : Binds K fd ["product"] [] := F.bindsN fun _ _ _ _ _ _ us hl => match us, hl with | [_], _ => rfl
  obtain ⟨oc, od, dV, kV, doc, pm, an, cdv, ct, osl, rfl, lk, hcd, _, _⟩ := F.ex
  have KX : K.In s.heap := e0.mod.kin.keeps fun b o e => (e0.bs b o e).1
  have hb := hb0 s [.ref q] KX rfl
  have S := sc_product_key
  have hkind : ∀ y ∈ (["product"] : List Str).zip [Value.ref q], (defScope f_product_key).names.lookup y.1 = some .local ∨ ((defScope f_product_key).names.lookup y.1 = some .cell ∧ ((cellsFrom (s.heap.objs.size + 1) (defScope f_product_key).names []).lookup y.1).isSome = true) := fun ⟨n, v⟩ hy =>
    (S.par n (List.of_mem_zip hy).1).elim .inl fun q => .inr ⟨q, PySem.W.cellsFrom_some _ _ _ (.inl q)⟩
  refine wpAny_call (codeAny_call_function hr.depth (KX _ _ lk) rfl S.co S.gen rfl (PySem.W.codeRec_of KX hcd) (hb _ _ _ _ (wpAny_newFunctionEnv_cells S.kind hkind fun env he s1 z => ?_)))
  subst he
  refine ⟨(e0.mod.nolimit.keeps fun b o e => (e0.bs b o e).1).keeps z.toInCall.keep, codeAny_func ?_⟩
  have I : Inv (cxOf CX0 P w K mg base ["product"] "product_key" (defScope f_product_key) _ cdv A outer s H (fun _ _ _ => False)) [] (start ["product"] [.ref q]) H s1 := inv_start (us := [.ref q]) (vs := [.ref q]) S hr.hd e0 rfl (.cons rfl .nil) z
  obtain ⟨hz, its, rv, ob, ho, hcl, n, hd⟩ := (show ObjOk P w H s1.heap q (.tup (p.map V.str)) from I.hok q _ hq)
  have hlen : its.toArray.size = p.length := by
    have := rv.length
    simp at this
    simp [this]
  refine wpAny_execs_cons (wpAny_Return_some (wpAny_Tuple_spliced (Calls.spliced_cons ?_)))
  refine wpAny_Call_Name_kw (ld_blt I rfl e.b_len boot_len ?_)
  refine PyProof.Rows.callWith_builtin1 (Calls.spliced_cons (ld_var (i := 0) (v := .ref q) I rfl rfl (Or.inl rfl) fun u ru => Calls.spliced_nil ?_)) rfl rfl
  cases ru
  rw [List.length_map, sizeLine_eq] at hz
  refine len_tuple ⟨ob, ho, hcl, n, hd⟩ (by rw [hlen]; omega) ?_
  refine Calls.spliced_cons (ld_var (i := 0) (v := .ref q) (I.tok (s1.toks + 1 + 1)) rfl rfl (Or.inl rfl) fun u ru => Calls.spliced_nil ?_)
  cases ru
  obtain ⟨h1, tk, e1, hk⟩ := z.done
  subst e1
  refine ⟨(by rw [sizeLine_eq]; show 2 ≤ 16777216; decide), _, _, rfl, fun b o e => Heap.get?_push_of_some _ (hk b o e), ?_⟩
  rw [hlen]
  refine Reads.tuple (as := []) (Heap.get?_push_size _ rfl) rfl rfl ?_
  refine ReadsAll.cons (as := []) (bs := []) (.int _ _) (ReadsAll.cons (as := []) (bs := []) ?_ .nil)
  exact Reads.tuple (Heap.get?_push_of_some _ ho) hcl hd (by simpa using reads_strs rv)
end
end NG
namespace NG
open PySem PySem.Spec PyProof.Rows L2 He
open PySem.W (KeyPure EachIs)
section
variable {X : Cx}
theorem each_ref {s : Shared} : ∀ {out : List Value} {bs : List (Addr × List Str)}, EachIs (fun (v : Value) (b : Addr × List Str) => v = .ref b.1) out bs → out = bs.map fun b => .ref b.1
  | [], [], _ => rfl
  | _ :: _, _ :: _, .cons r t => by rw [r, each_ref (s := s) t]; rfl
theorem each_of : ∀ bs : List (Addr × List Str), EachIs (fun (v : Value) (b : Addr × List Str) => v = .ref b.1) (bs.map fun b => .ref b.1) bs
  | [] => .nil
  | b :: r => .cons rfl (each_of r)
theorem vals_fst : ∀ bs : List (Addr × List Str), Vals (bs.map fun b => V.ref b.1) (bs.map fun b => Value.ref b.1)
  | [] => .nil
  | _ :: r => .cons rfl (vals_fst r)
theorem vals_fst' : ∀ {bs : List (Addr × List Str)} {us : List Value}, Vals (bs.map fun b => V.ref b.1) us → us = bs.map fun b => Value.ref b.1
  | [], _, .nil => rfl
  | _ :: r, _, .cons e t => by
    cases e
    rw [vals_fst' t]
    rfl
/-- sorted(list of products, key=product_key) -/
def rSortP (K : Fg) (f : Addr) : List V → List V → Hp → VK → Prop := fun vs zs H Q => ∃ (a : Addr) (bs : List (Addr × List Str)), vs = [.ref a] ∧ zs = [.ref f] ∧ SqL K H a (bs.map fun b => V.ref b.1) ∧ (∀ b ∈ bs, H b.1 = some (.tup (b.2.map V.str))) ∧
  ∀ q (bs' : List (Addr × List Str)), H q = none → bs'.Perm bs → Q (.ref q) (upd H q (.lst (bs'.map fun b => V.ref b.1)))
theorem cr_sortP (e : Ev X.K X.mg) {f : Addr} (hf : X.mg "product_key" = some (.ref f)) (hr : Room 4 X.A) : CallRK X (.builtin "sorted") [Str.ofString "key"] (rSortP X.K f) := by
  intro pins s σ H vs zs us ws Q I r rz h
  obtain ⟨a, bs, rfl, rfl, hs, hbs, q⟩ := h
  obtain rfl := Vals.ref1 r
  obtain ⟨w1, rfl, e1⟩ := vals1 rz
  cases e1
  obtain ⟨its, rv, hl, hz⟩ := I.list hs
  have ei := vals_fst' rv
  subst ei
  rw [List.length_map] at hz
  refine PySem.W.sorted_key_data (b := false) (R := fun (v : Value) (b : Addr × List Str) => v = .ref b.1) (fun b : Addr × List Str => keyD b.2) hl.isList (each_of bs) (PySem.W.AllAlike.of fun b b' => ?_) (PySem.W.Sortable.tuples fun _ => ⟨_, _, rfl⟩) hz (fun b _ => ?_)
    (PyProof.Rows.ksk_s1 _ _) (fun _ => PyProof.Rows.ksk_l1 _ _) (fun _ => PyProof.Rows.ksk_t1 _ _) (fun v b ev hb h tk kp => ?_) (fun out c h' tk kp n1 hD hl' eo => ?_)
  · show PySem.W.alike (keyD b.2) (keyD b'.2) = true
    unfold keyD
    simp [PySem.W.alike, PySem.W.alikeAll, alike_strs]
  · have := depth_key b.2
    have := hr.un
    omega
  · subst ev
    have I' := I.kept (t' := tk) (h' := h) kp
    have e0 := I'.env0.in1.in1
    exact key_pure e hf ((Room.in1 (Room.in1 (hr.mono (by decide : 3 ≤ 4)))).mono (by decide)) e0 (hbs b hb)
  · have eo' := each_ref (s := s) eo
    subst eo'
    have hp := List.mergeSort_perm bs (PySem.W.dataLe false fun b : Addr × List Str => keyD b.2)
    have hn : H (s.heap.objs.size + 1) = none := I.hok.fresh (Nat.le_succ _)
    refine ⟨.ref _, upd H (s.heap.objs.size + 1) (.lst ((bs.mergeSort (PySem.W.dataLe false fun b : Addr × List Str => keyD b.2)).map fun b => V.ref b.1)), I.laid (t' := tk) kp (Nat.le_succ _) ⟨?_, _, c, vals_fst _, hD⟩, rfl, q _ _ hn hp⟩
    rw [List.length_map, hp.length_eq]
    exact hz
end
end NG

set_option Elab.async false
set_option linter.all false
set_option maxRecDepth 100000
set_option maxHeartbeats 400000
/-! the pairs of a dict with tuple keys -/
namespace NG
open PySem PySem.Spec PyProof.Rows L2 He

section
variable {X : Cx} {pins : List (Addr × Obj)} {σ : L2.St} {H : Hp} {s : Shared} {d : Addr} {o : Obj}
theorem _root_.L2.Inv.frzTv {kvs : List (List Key × V)} (I : Inv X pins σ H s) (h : H d = some (.frz o (.dT kvs))) :
    (d == sysModules) = false ∧ s.heap.get? d = some o ∧ o.ExactDict ∧ ∃ (es : Array DictEntry) (ep : Nat), o.data = .dict es ep ∧ es.size = kvs.length ∧
      ∀ (i : Nat) (k : List Key) (v : V), kvs[i]? = some (k, v) → ∃ (en : DictEntry) (q : Addr), es[i]? = some en ∧ en.key = .ref q ∧ H q = some (.tup (k.map kV)) ∧ RelV v en.val := by
  obtain ⟨hd, z, hs, xs, pr, o', es, ep, ho, hx, hdt, he, _⟩ := I.hok d _ h
  rw [hd] at ho
  cases ho
  have l1 : es.size = xs.length := size_of_entries he
  have l2 : kvs.length = xs.length := Paired.length pr
  refine ⟨hs, hd, hx, es, ep, hdt, by omega, fun i k v e => ?_⟩
  obtain ⟨b, hb, e1, e2, e3⟩ := paired_get pr e
  have q := entry_at he i
  rw [hb] at q
  exact ⟨_, b.2.1, q, rfl, e2, e3⟩
end
/-- the pairs, each a new tuple: the key's own tuple, the value -/
def Itit (d : Addr) (o : Obj) (kvs : List (List Key × V)) : It :=
  ⟨fun i H => H d = some (.frz o (.dT kvs)) ∧ i < kvs.length, fun i H x H' => ∃ (T : Addr) (k : List Key) (v : V) (q : Addr), kvs[i]? = some (k, v) ∧ x = .ref T ∧ H q = some (.tup (k.map kV)) ∧ H T = none ∧ H' = upd H T (.tup [.ref q, v]), fun i H => H d = some (.frz o (.dT kvs)) ∧ kvs.length ≤ i⟩
section
variable {P : Program} {w : World} {K : Fg} {d : Addr} {o : Obj} {es : Array DictEntry} {ep : Nat}
theorem turn_itemsT {kvs : List (List Key × V)} {elts : List Expr} {kk : Nat} {tpos : Pos} (it : Addr) (hod : o.data = .dict es ep) :
    Turn P w K (.Tuple elts kk tpos) (Itit d o kvs) [it] it (fun i h => ∃ ok ov, IsItemIter h it d i kvs.length ep ok ov) where
  mem := by simp
  obj := fun i h st b hb => by
    have e : b = it := by simpa using hb
    subst e
    obtain ⟨ok, ov, e⟩ := st
    exact ⟨_, e, fun v z => nomatch z⟩
  keep := fun i h h' st k => let ⟨ok, ov, e⟩ := st; ⟨ok, ov, k it (by simp) _ e⟩
  item := by
    intro X hP hw hK hc i pins s σ H E I hf st hg
    subst hP hw hK
    obtain ⟨hd, hi⟩ := hg
    obtain ⟨hs, hgd, hx, es', ep', hdt, hsz, ent⟩ := I.frzTv hd
    obtain ⟨rfl, rfl⟩ := dict_ep hod hdt
    obtain ⟨⟨k, v⟩, hkv⟩ : ∃ p, kvs[i]? = some p := ⟨kvs[i], List.getElem?_eq_getElem hi⟩
    obtain ⟨en, q, hen, hkey, hq, rv⟩ := ent i k v hkv
    obtain ⟨ok, ov, he⟩ := st
    rw [← hsz] at he
    have hlt : it < s.heap.objs.size := Heap.lt_size he
    have hi2 : i < es'.size := by rw [hsz]; exact hi
    have e1 : es'[i] = en := by
      rw [Array.getElem?_eq_getElem hi2] at hen
      exact Option.some.inj hen
    refine wpAny_pyNext_items_item_raw he ⟨o, hgd, hx, hdt⟩ hi2 fun h' ho hT hz hk => ?_
    rw [e1, hkey] at ho hT
    refine ⟨_, rfl, wpAny_letOwnedTupleGo_items (s := { s with heap := h' }) ho fun h'' he' sb => ?_⟩
    have hT2 : h''.get? s.heap.objs.size = some { cls := .type "tuple", data := .seq #[.ref q, en.val] } := (sb.2 _ (Nat.ne_of_gt hlt)).trans hT
    have new : ObjOk X.prog X.w (upd H s.heap.objs.size (.tup [.ref q, v])) h'' s.heap.objs.size (.tup [.ref q, v]) :=
      ⟨by show 2 ≤ sizeLine; decide, [.ref q, en.val], .cons rfl (.cons rv .nil), ⟨_, hT2, rfl, _, rfl⟩⟩
    have I1 : Inv X pins σ (upd H s.heap.objs.size (.tup [.ref q, v])) { s with heap := h'' } :=
      I.turnedNew (t' := s.toks) (ch := [it]) (fun b ob hb e => (sb.2 b (by simpa using hb)).trans (hk b ob (by simpa using hb) e)) hf (Nat.le_refl _) new
    refine ⟨.ref s.heap.objs.size, _, I1, rfl, ⟨_, k, v, q, hkv, rfl, hq, I.hok.fresh (Nat.le_refl _), rfl⟩, ⟨.ref q, en.val, ?_⟩, fun b hb => ?_⟩
    · rw [← hsz]; exact he'
    · have e : b = it := by simpa using hb
      rw [e, upd_ne (Nat.ne_of_lt hlt)]
      exact (hf it (by simp)).1
  done := by
    intro X hP hw hK hc i pins s σ H E I hf st hg
    subst hP hw hK
    obtain ⟨hd, hi⟩ := hg
    obtain ⟨f0, f1, f2, f3, f4, f5⟩ := hf it (by simp)
    obtain ⟨hs, hgd, hx, es', ep', hdt, hsz, ent⟩ := I.frzTv hd
    obtain ⟨rfl, rfl⟩ := dict_ep hod hdt
    obtain ⟨ok, ov, he⟩ := st
    rw [← hsz] at he
    exact wpAny_pyNext_items_end_raw (I.ok.hd hc) he ⟨o, hgd, hx, hdt⟩ (by omega) fun h' eb => ⟨rfl, I.turned (t' := s.toks) (fun b ob hb e => eb b ob hb e) f0 f1 f3 f4 f5⟩
  self := fun A i s Q E st h => let ⟨_, _, e⟩ := st; PySem.W.kcp_self e h
end
def iItemsT (td : TE) : TI := fun σ H R => td σ H fun x H1 => ∃ d o kvs, x = .ref d ∧ H1 d = some (.frz o (.dT kvs)) ∧ R (Itit d o kvs) H1
section
variable {X : Cx} {tg e : Expr} {td : TE} {apos cpos : Pos}
theorem pi_itemsT {elts : List Expr} {kk : Nat} {tpos : Pos} (he : PE X e td) (hbase : attributeBase e "items" X.env (eval e X.env) = eval e X.env := by rfl) (hline : (apos.endLine == cpos.line) = true := by rfl) :
    PI X (.Tuple elts kk tpos) (.Call (.Attribute e "items" apos) [] [] cpos) (iItemsT td) := by
  refine ⟨fun pins s σ H R I h => ?_⟩
  refine wpAny_Call_method (T := "dict") (id := "dict.items") hbase rfl hline F.plainAttrs_dict F.slot_dict_items F.type_dict_items (thn (he.run pins s σ H _ I h) fun u s1 ⟨x, H1, I1, rx, d, o, kvs, ex, hd, q⟩ => ?_)
  subst ex
  obtain rfl : u = Value.ref d := rx
  obtain ⟨hs, hgd, hx, es, ep, hdt, hsz, ent⟩ := I1.frzTv hd
  have hm : s1.heap.DictRaw d es ep := ⟨o, hgd, hx, hdt⟩
  refine ⟨hm.typeIs, (fun a ea => by cases ea; exact ⟨o, hgd, hx.2.1⟩), ?_⟩
  have I2 : Inv X pins σ H1 { s1 with heap := s1.heap.push { cls := .type "dict_items", data := .fields #[.ref d] } } := I1.kept (t' := s1.toks) fun b ob q => Heap.get?_push_of_some _ q
  have fin : wpAny (model X.prog X.w) X.A (pyIter (.ref s1.heap.objs.size)) (PIE X pins σ (.Tuple elts kk tpos) R) X.xe { s1 with heap := s1.heap.push { cls := .type "dict_items", data := .fields #[.ref d] } } := by
    refine wpAny_pyIter_items_raw (d := d) ⟨_, Heap.get?_push_size _ rfl, rfl, rfl⟩ (es := es) (ep := ep) ⟨o, Heap.get?_push_of_some _ hgd, hx, hdt⟩ (pi_one (tk := s1.toks) I2 _ (turn_itemsT _ hdt) ⟨.none, .none, ?_⟩ q)
    rw [← hsz]
    exact Heap.get?_push_size _ rfl
  show wpAny _ _ (callWith cpos (.builtin "dict.items") [.ref d] [] []) _ X.xe s1
  exact method_meetsIn F.slot_dict_items F.entry_dict_items rfl (PySem.evalArgs_none ⟨rfl, hm.typeIs, F.args_dict_items_1 _, _, meets_dict_items_raw d hs, ⟨es, ep, hm⟩, fin⟩)
end
end NG

set_option Elab.async false
set_option linter.all false
set_option maxRecDepth 100000
set_option maxHeartbeats 400000
/-! dict(pairs), the keys tuples -/
namespace NG
open PySem PySem.Spec PyProof.Rows L2 He
def mergeT (kvs more : List (List Key × V)) : List (List Key × V) := more.foldl (fun acc kv => putK acc kv.1 kv.2) kvs
theorem KT.merge {H : Hp} : ∀ {more : List (List Key × V)} {rs : List (List Key × Addr × Value)} {kvs : List (List Key × V)} {xs : List (List Key × Addr × Value)}, KT H more rs → KT H kvs xs → KT H (mergeT kvs more) (storedAllH xs rs)
  | _, _, _, _, .nil, r => r
  | _, _, _, _, .cons (a := p) (b := q) h t, r => by
    obtain ⟨h1, h2, h3⟩ := h
    refine KT.merge (kvs := putK _ p.1 p.2) (xs := storedH _ q.1 q.2.1 q.2.2) t ?_
    rw [← h1]
    exact r.put p.1 h2 h3
theorem length_putT (kvs : List (List Key × V)) (k : List Key) (v : V) : (putK kvs k v).length ≤ kvs.length + 1 := by
  unfold putK
  split
  · rw [List.length_map]; omega
  · rw [List.length_append]; simp
theorem length_mergeT : ∀ (more kvs : List (List Key × V)), (mergeT kvs more).length ≤ kvs.length + more.length
  | [], kvs => by simp [mergeT]
  | p :: r, kvs => by
    have h1 := length_mergeT r (putK kvs p.1 p.2)
    have h2 := length_putT kvs p.1 p.2
    show (mergeT (putK kvs p.1 p.2) r).length ≤ _
    rw [List.length_cons]
    omega
section
variable {X : Cx}
/-- pairs of a key's tuple and a value -/
def PrT (K : PySem.W.Frag) (H : Hp) : List Addr → List (List Key × Addr × V) → Prop := Paired fun t p => SqT K H t [.ref p.2.1, p.2.2] ∧ H p.2.1 = some (.tup (p.1.map kV))
theorem pairsT_of {pins : List (Addr × Obj)} {σ : L2.St} {H : Hp} {s : Shared} (I : Inv X pins σ H s) : ∀ {ts : List Addr} {ps : List (List Key × Addr × V)}, PrT X.K H ts ps →
    ∃ prs : List (List Key × Addr × Value), KT H (ps.map fun p => (p.1, p.2.2)) prs ∧ prs.length = ts.length ∧ ∀ (j : Nat) (q : List Key × Addr × Value), prs[j]? = some q → ∃ T : Addr, ts[j]? = some T ∧ IsTup s.heap T #[.ref q.2.1, q.2.2]
  | _, _, .nil => ⟨[], .nil, rfl, fun j q e => by simp at e⟩
  | _, _, .cons (a := t) (b := p) h r => by
    obtain ⟨prs, rel, hl, hp⟩ := pairsT_of I r
    obtain ⟨its, rv, ht, _⟩ := I.tuple h.1
    obtain ⟨u, y, ei, ru, ry⟩ := vals2 rv
    subst ei
    cases ru
    refine ⟨(p.1, p.2.1, y) :: prs, .cons ⟨rfl, h.2, ry⟩ rel, by rw [List.length_cons, List.length_cons, hl], fun j q e => ?_⟩
    cases j with
    | zero =>
      have e' : (p.1, p.2.1, y) = q := Option.some.inj e
      subst e'
      exact ⟨t, rfl, ht⟩
    | succ j =>
      obtain ⟨T, e1, e2⟩ := hp j q (by simpa using e)
      exact ⟨T, by simpa using e1, e2⟩
def rDictPT (K : PySem.W.Frag) : List V → Hp → VK → Prop := fun xs H Q => ∃ (a : Addr) (ts : List Addr) (ps : List (List Key × Addr × V)), xs = [.ref a] ∧ SqL K H a (ts.map V.ref) ∧ PrT K H ts ps ∧
  ∀ d, H d = none → Q (.ref d) (upd H d (.dT (mergeT [] (ps.map fun p => (p.1, p.2.2)))))
theorem call_dictPT (hcalm : X.calm = true) (hu : X.A.units + 8 < cLine) : CallR X (.type "dict") (rDictPT X.K) := by
  intro pins s σ H xs us Q I r q
  obtain ⟨a, ts, ps, ex, hq, hp, q⟩ := q
  subst ex
  obtain ⟨u, eu, rx⟩ := vals1 r
  subst eu
  cases rx
  obtain ⟨its, rv, pl, hz⟩ := I.list hq
  have ei := refs_at rv
  subst ei
  rw [List.length_map] at hz
  obtain ⟨prs, rel, hl, hpr⟩ := pairsT_of I hp
  have hpp := hp
  obtain ⟨o, n, ho, hc, hd, hdat⟩ := pl
  have hn : H s.heap.objs.size = none := I.hok.fresh (Nat.le_refl _)
  have hkeys : ∀ x ∈ prs, ∃ p, p.1 = x.1 ∧ H x.2.1 = some (.tup (p.1.map kV)) ∧ (p : List Key × V) ∈ ps.map fun p => (p.1, p.2.2) := by
    have all : ∀ {l : List (List Key × V)} {m : List (List Key × Addr × Value)}, KT H l m → ∀ x ∈ m, ∃ p, p.1 = x.1 ∧ H x.2.1 = some (.tup (p.1.map kV)) ∧ p ∈ l := by
      intro l m r
      induction r with
      | nil => intro x hx; exact nomatch hx
      | @cons p q ps qs h t ih =>
        intro x hx
        rcases List.mem_cons.mp hx with e | hx
        · subst e; exact ⟨p, h.1, h.2.1, List.mem_cons_self⟩
        · obtain ⟨p', e1, e2, e3⟩ := ih x hx; exact ⟨p', e1, e2, List.mem_cons_of_mem _ e3⟩
    exact all rel
  refine call_dict_pairsH (knd := tupleKind (mixKind X.prog X.w)) (ps := prs) (PairArg.list a ((ts.map Value.ref).toArray) (fun j => ts.getD j 0) (prs.map fun q => (.ref q.2.1, q.2.2))) (I.ok.hd hcalm) ?_ ⟨⟨o, n, ho, hc, hd, hdat⟩, by simp [hl], fun j k v e => ?_⟩ ⟨by simp, fun i key v e => ?_⟩ (fun h' hk x hx => ?_) (by simp [hl]; exact hz) fun h' tk hd' k => ?_
  · show X.A.units + 1 + 1 < cLine
    omega
  · rw [List.getElem?_map] at e
    obtain ⟨q', hq', e2⟩ := Option.map_eq_some_iff.mp e
    cases e2
    obtain ⟨T, hT, h1⟩ := hpr j q' hq'
    refine ⟨by simp [hT], .inl ?_⟩
    have eT : ts.getD j 0 = T := by rw [List.getD_eq_getElem?_getD, hT]; rfl
    show IsTup s.heap (ts.getD j 0) _
    rw [eT]
    exact h1
  · have e := (show (prs.map fun q => ((.ref q.2.1 : Value), q.2.2))[i]? = some (key, v) from e)
    rw [List.getElem?_map] at e
    obtain ⟨q', hq', e2⟩ := Option.map_eq_some_iff.mp e
    cases e2
    exact ⟨q'.1, q'.2.1, hq', rfl⟩
  · obtain ⟨p, e1, e2, _⟩ := hkeys x hx
    rw [← e1]
    obtain ⟨o1, it1, n1, a1, a2, a3, a4⟩ := key_of I.hok e2
    exact ⟨o1, it1, n1, hk _ _ (Nat.ne_of_lt (Heap.lt_size a1)) (by simp) a1, a2, a3, a4⟩
  · have hm : (s.heap.objs.size == sysModules) = false := beq_eq_false_iff_ne.mpr (Nat.ne_of_gt I.big)
    have hlen : (mergeT [] (ps.map fun p => (p.1, p.2.2))).length ≤ sizeLine := by
      refine Nat.le_trans (length_mergeT _ []) ?_
      have := Paired.length rel
      rw [List.length_nil, Nat.zero_add, this, hl]
      exact hz
    obtain ⟨o2, es, ep, b1, b2, b3, b4, b5, b6⟩ := hd'
    have hKT := (KT.merge rel .nil).keeps (H' := upd H s.heap.objs.size (.dT (mergeT [] (ps.map fun p => (p.1, p.2.2))))) fun b ys hb => by rw [upd_ne (ne_of_none hb hn)]; exact hb
    exact ⟨.ref s.heap.objs.size, upd H s.heap.objs.size (.dT (mergeT [] (ps.map fun p => (p.1, p.2.2)))), I.laid (t' := tk) (fun b o e => k b o (by simp) e) (Nat.le_refl _) (show ObjOk X.prog X.w _ _ _ (.dT _) from ⟨hlen, hm, _, hKT, o2, es, ep, b1, b2, b3, b4, b6⟩), rfl, q _ hn⟩
end
end NG

set_option Elab.async false
set_option linter.all false
set_option maxRecDepth 100000
set_option maxHeartbeats 400000
/-! sorted(t), t a tuple of texts -/
namespace NG
open PySem PySem.Spec PyProof.Rows L2
section
variable {prog : Program} {w : World} {A : Around} {E : Value → Shared → Prop} {s : Shared}
theorem collect_tup {l : Addr} {vs : List Value} {Q : List Value → Shared → Prop} (hl : s.heap.IsTuple l vs.toArray)
    (h : Q vs { s with heap := (s.heap.push (seqObj "list" #[] 0)).update s.heap.objs.size (Obj.mapSeq (· ++ vs.toArray)) }) (hsz : vs.length ≤ sizeLine) :
    wpAny (model prog w) A (collect (.ref l)) Q E s := by
  obtain ⟨o, ho, hc, n, hd⟩ := id hl
  unfold collect
  refine wpAny_bind (wpAny_runValue (codeAny_builtin entry_proto_collect' ?_))
  show wpAny _ _ (do again (.builtin "list.__iadd__" ⟨[← newList [], .ref l], []⟩)) _ _ s
  refine wpAny_bind (wpAny_newList (wpAny_pure ⟨Code.quiet_builtin _ (by decide +kernel), codeAny_builtin entry_list_iadd' ?_⟩))
  show wpAny _ _ (Builtin.List.listExtendWith (.ref s.heap.objs.size) (.ref l) (.ref s.heap.objs.size)) _ _ { s with heap := s.heap.push (seqObj "list" #[] 0) }
  unfold Builtin.List.listExtendWith
  have ho' : (s.heap.push (seqObj "list" #[] 0)).get? l = some o := Heap.get?_push_of_some _ ho
  refine wpAny_bind (wpAny_typeOf (T := "tuple") ⟨o, ho', hc⟩ ?_)
  have ht : (Value.type "tuple" == Value.type "tuple") = true := by rfl
  rw [if_pos (by rw [ht]; simp)]
  refine wpAny_bind (listItems_at ho' hd ?_)
  refine wpAny_bind (listItems_at (xs := #[]) (n := 0) (Heap.get?_push_size _ rfl) rfl ?_)
  rw [if_neg (by simp)]
  refine wpAny_bind (listUpdate_at (xs := #[]) (n := 0) (Heap.get?_push_size _ rfl) rfl ?_ (Nat.zero_le _) (by show (#[] ++ vs.toArray).size ≤ sizeLine + 1; simp only [Array.size_append, List.size_toArray, List.length_nil]; omega))
  refine wpAny_pure ?_
  show wpAny (model prog w) A (do
      let o ← load s.heap.objs.size
      match o.data with
      | .seq xs _ => pure xs.toList
      | _ => unsupported "internal:collect") Q E { s with heap := (s.heap.push (seqObj "list" #[] 0)).update s.heap.objs.size (Obj.mapSeq (· ++ vs.toArray)) }
  refine wpAny_bind (wpAny_load (get?_update_seq (Heap.get?_push_size _ rfl) _) ?_)
  show wpAny _ _ (pure ((#[] : Array Value) ++ vs.toArray).toList) Q E _
  rw [show ((#[] : Array Value) ++ vs.toArray).toList = vs by simp]
  exact wpAny_pure h
theorem sorted_strsT {l : Addr} {vs : List Value} {ss : List Str} {Q : Value → Shared → Prop} (hl : s.heap.IsTuple l vs.toArray) (hS : StrsAre vs ss) (hL : vs.length ≤ sizeLine)
    (h : ∀ (out : Array Value) (ss' : List Str), StrsAre out.toList ss' → ss'.Perm ss → sortedS ss' = true → Q (.ref (s.heap.objs.size + 1)) { s with heap := sortedAll s.heap vs out }) :
    wpAny (model prog w) A (call (.builtin "sorted") [.ref l]) Q E s := by
  refine Calls.call_function_entry kind_sorted plain_sorted entry_sorted (args_sorted1 _) ?_
  unfold Builtin.«sorted»
  refine wpAny_bind (m := checkCount "sorted" 1 1 _) (wpAny_pure ?_)
  refine wpAny_bind (collect_tup hl ?_ hL)
  refine wpAny_bind (wpAny_newList ?_)
  have hsz : ((s.heap.push (seqObj "list" #[] 0)).update s.heap.objs.size (Obj.mapSeq (· ++ vs.toArray))).objs.size = s.heap.objs.size + 1 := by
    rw [Heap.size_update, size_push']
  have hoL : (((s.heap.push (seqObj "list" #[] 0)).update s.heap.objs.size (Obj.mapSeq (· ++ vs.toArray))).push (seqObj "list" vs.toArray 0)).get? (s.heap.objs.size + 1) = some (seqObj "list" vs.toArray 0) := by
    rw [← hsz]; exact Heap.get?_push_size _ rfl
  show wpAny _ _ _ _ _ { s with heap := ((s.heap.push (seqObj "list" #[] 0)).update s.heap.objs.size (Obj.mapSeq (· ++ vs.toArray))).push (seqObj "list" vs.toArray 0) }
  rw [hsz]
  refine wpAny_bind (wpAny_holding (wpAny_call_entry slot_list_sort ⟨_, hoL, rfl⟩ entry_list_sort (list_sort_treeKAny strKind_oneLt hoL hS.keysOf (fun v₁ v₂ rest e => keyKind_strs (by rw [← e]; exact hS)) hL fun st' hp hs => ⟨_, rfl, ?_⟩) (args_list_sort _)))
  obtain ⟨ss', h1, h2, h3⟩ := sorted_out_str hS hp hs
  exact wpAny_pure ⟨_, rfl, h _ ss' h1 h2 h3⟩
end
section
variable {X : Cx}
/-- sorted(t), t a tuple of texts -/
def rSortedTS (K : PySem.W.Frag) : List V → Hp → VK → Prop := fun vs H Q => ∃ (a : Addr) (xs : List Str), vs = [V.ref a] ∧ SqT K H a (xs.map V.str) ∧ xs.length < 64 ∧ ∀ (ys : List Str) (p : Addr), ys.Perm xs → sortedS ys = true → H p = none → Q (.ref p) (upd H p (.lst (ys.map V.str)))
theorem cr_sortedTS : CallR X (.builtin "sorted") (rSortedTS X.K) := by
  intro pins s σ H vs us Q I r h
  obtain ⟨a, xs, rfl, hs, h64, q⟩ := h
  obtain ⟨its, rv, hl, hz⟩ := I.tuple hs
  rw [Vals.ref1 r]
  have hlen0 := rv.length
  rw [List.length_map] at hlen0
  refine sorted_strsT (vs := its) hl rv.strs (by rw [← hlen0, sizeLine_eq]; omega) fun out ys h1 h2 h3 => ?_
  obtain ⟨ep, he'⟩ := PyProof.Rows.sortedAll_at s.heap its out
  have hlen : (ys.map V.str).length ≤ sizeLine := by rw [List.length_map, h2.length_eq, sizeLine_eq]; omega
  exact ⟨.ref _, upd H (s.heap.objs.size + 1) (.lst (ys.map V.str)), I.laid (t' := s.toks) (fun _ _ => PyProof.Rows.sortedAll_old) (Nat.le_succ _) ⟨hlen, out.toList, ep, vals_of_strs h1, he'⟩, rfl, q ys _ h2 h3 (I.hok.fresh (Nat.le_succ _))⟩
end
end NG

set_option Elab.async false
set_option linter.all false
set_option maxRecDepth 100000
set_option maxHeartbeats 400000
/-! are_keys, is_term, want_terms -/
namespace NG
open PySem PySem.Spec PyProof.Rows L2 He
variable {P : Program} {w : World} {K : Fg} {mg : Str → Option Value} {base : Heap}
theorem sc_are_keys : FnScope ["value", "key"] ["value"] (defScope f_are_keys) := ⟨rfl, rfl, rfl, by decide +kernel, rfl, by decide +kernel, by decide +kernel⟩
def spAreKeys (K : Fg) : Sp := fun vs H Q _ => ∃ (a : Addr) (ks : List Str), vs = [.ref a] ∧ SqT K H a (ks.map V.str) ∧ ks.length ≤ 1000 ∧ (∀ k ∈ ks, keyS k = true) ∧ ∀ H', Same H H' → Q (.bl true) H'
theorem has_are_keys (e : Ev K mg) : Has P w K mg base 2 "are_keys" ["value"] (spAreKeys K) := by
  obtain ⟨fd, F⟩ := e.F_f_are_keys
  refine ⟨_, fd, e.g_are_keys, ?_, F.kp, F.bindsN fun _ _ _ _ _ _ us hl => match us, hl with | [_], _ => rfl⟩
  obtain ⟨f1', d1, m1, G1, k1, b1⟩ := has_is_list (P := P) (w := w) (base := base) e
  obtain ⟨f2, d2, m2, G2, k2, b2⟩ := has_is_key (P := P) (w := w) (base := base) e
  refine F.okD sc_are_keys (fun vs H Q E h => ?_) (fun cdv A outer s H vs Q E hr h => ?_)
  · obtain ⟨a, ks, rfl, _⟩ := h; rfl
  · obtain ⟨a, ks, rfl, ha, hl, hk, q⟩ := h
    refine ⟨_, pss_one (ps_ret (pe_and (pe_call G1 hr rfl m1 k1 b1 .nil pass0 (pa_cons (pv 0) pa_nil)) (pe_one (pe_callB (show CallR _ (.builtin "all") _ from cr_all rfl) rfl e.b_all (by decide +kernel) (pa_cons (pe_lc (own := [("key", 1)]) (g := gName 1) (tt := tYes) rfl sc_are_keys.nd (pi_tup (pv 0)) (blkOk_by (N := ["value", "key"]) (sc := defScope f_are_keys) (by decide +kernel))
        (fun _ _ _ _ _ => pg_name (i := 1) sc_are_keys.nd rfl (Or.inl rfl)) (fun _ _ _ _ _ => pts_nil) (fun _ _ _ _ _ => pe_call G2 hr rfl m2 k2 b2 .nil pass0 (pa_cons (pv 1) pa_nil))) pa_nil))))), ?_⟩
    refine ⟨_, rfl, a, rfl, .inr ⟨_, ha⟩, fun H1 s1 => ⟨true, rfl, iteT ?_⟩⟩
    have ha1 := s1.tup ha
    refine ⟨_, rfl, a, rfl, ⟨_, ha1⟩, fun D hD => ?_⟩
    refine lc_src (src_tup mn_isS (H0 := H1) (Each.map V.str fun _ _ => rfl)) isBl (fun _ => true) (fun _ => true) ⟨Same.refl _, ha1⟩ hD (small1000 hl) ?_ ?_
    · intro j k y H3 acc Nx hp s3 _ ey hD3 hl3 _ _ kT
      obtain rfl := ey
      have hkp := hk k (List.mem_of_getElem? hp)
      refine ⟨rfl, tYes_of ?_⟩
      refine ⟨_, rfl, .str k, rfl, .inl ⟨k, rfl, Nat.le_trans (keyS_len hkp) (by decide), fun H4 s4 => ?_⟩⟩
      rw [hkp]
      exact ⟨acc, s4 _ _ hD3, hl3, kT rfl _ _ s4 fun _ _ => rfl⟩
    · intro H3 ys s3 hy he
      have ey := each_bl (he H3 fun _ _ _ z => z)
      rw [filt] at ey
      refine ⟨D, _, rfl, SqL.of (by rw [hy, ey]), ?_⟩
      rw [List.all_map]
      have ea : ks.all (id ∘ fun _ : Str => true) = true := List.all_eq_true.mpr fun _ _ => rfl
      rw [ea]
      exact q _ (s1.trans s3)
/-- a term: a number, a tuple of keys -/
def TmR (K : Fg) : Rl (Rat × List Str) := fun H v m => ∃ T x E, v = .ref T ∧ H T = some (.tup [x, .ref E]) ∧ Nu K H x m.1 ∧ SqT K H E (m.2.map V.str)
theorem mn_Tm : Mn (TmR K) := fun _ _ _ _ s ⟨T, x, E, e, h, n, t⟩ => ⟨T, x, E, e, s _ _ h, mn_Nu _ _ _ _ s n, s.tup t⟩
def GoodTm (m : Rat × List Str) : Prop := m.2.length ≤ 1000 ∧ ∀ k ∈ m.2, keyS k = true
theorem sc_is_term : FnScope ["value"] ["value"] (defScope f_is_term) := ⟨rfl, rfl, rfl, by decide +kernel, rfl, by decide +kernel, by decide +kernel⟩
def spIsTerm (K : Fg) : Sp := fun vs H Q _ => ∃ v m, vs = [v] ∧ TmR K H v m ∧ GoodTm m ∧ ∀ H', Same H H' → Q (.bl true) H'
theorem has_is_term (e : Ev K mg) : Has P w K mg base 3 "is_term" ["value"] (spIsTerm K) := by
  obtain ⟨fd, F⟩ := e.F_f_is_term
  refine ⟨_, fd, e.g_is_term, ?_, F.kp, F.bindsN fun _ _ _ _ _ _ us hl => match us, hl with | [_], _ => rfl⟩
  obtain ⟨f1', d1, m1, G1, k1, b1⟩ := has_is_number (P := P) (w := w) (base := base) e
  obtain ⟨f2, d2, m2, G2, k2, b2⟩ := has_are_keys (P := P) (w := w) (base := base) e
  refine F.okD sc_is_term (fun vs H Q E h => ?_) (fun cdv A outer s H vs Q E hr h => ?_)
  · obtain ⟨v, m, rfl, _⟩ := h; rfl
  · obtain ⟨v, m, rfl, ⟨T, x, E, rfl, hT, hx, hE⟩, ⟨hl, hk⟩, q⟩ := h
    refine ⟨_, pss_one (ps_ret (pe_and (pe_callB call_isi rfl e.b_isinstance boot_isinstance (pa_cons (pv 0) (pa_cons (pe_bltn (v := .ty "tuple") rfl e.b_tuple boot_tuple rfl) pa_nil)))
      (pe_and (pe_cmpR op_eq (pe_callB call_len_seq rfl e.b_len boot_len (pa_cons (pv 0) pa_nil)) pe_int (nomark _))
      (pe_and (pe_call G1 hr rfl m1 k1 b1 .nil pass0 (pa_cons (pe_ix ix_tup (pv 0) pe_int (fun _ _ => rfl)) pa_nil))
      (pe_one (pe_call G2 hr rfl m2 k2 b2 .nil pass0 (pa_cons (pe_ix ix_tup (pv 0) pe_int (fun _ _ => rfl)) pa_nil))))))), ?_⟩
    refine ⟨_, rfl, _, .ty "tuple", _, _, _, rfl, .ty _, .base (.tup hT), kit_ty (by decide +kernel : kitB "tuple" "tuple" = some true), true, rfl, iteT ?_⟩
    refine ⟨_, rfl, T, _, rfl, .inr (SqT.of hT), rfl, true, rfl, iteT ?_⟩
    refine ⟨_, rfl, T, _, 0, _, rfl, rfl, SqT.of hT, rfl, x, m.1, rfl, hx, true, rfl, iteT ?_⟩
    exact ⟨_, rfl, T, _, 1, _, rfl, rfl, SqT.of hT, rfl, E, m.2, rfl, hE, hl, hk, fun H1 s1 => q H1 s1⟩
abbrev nWTerms : List Str := ["terms", "position", "term"]
theorem sc_WTerms : FnScope nWTerms ["terms"] (defScope f_want_terms) := ⟨rfl, rfl, rfl, by decide +kernel, rfl, by decide +kernel, by decide +kernel⟩
def spWTerms (K : Fg) : Sp := fun vs H Q _ => ∃ (a : Addr) (ws : List V) (ms : List (Rat × List Str)), vs = [.ref a] ∧ SqL K H a ws ∧ Each (TmR K) H ws ms ∧ (∀ m ∈ ms, GoodTm m) ∧ ∀ H', Same H H' → Q .non H'
theorem has_want_terms (e : Ev K mg) : Has P w K mg base 4 "want_terms" ["terms"] (spWTerms K) := by
  obtain ⟨fd, F⟩ := e.F_f_want_terms
  refine ⟨_, fd, e.g_want_terms, ?_, F.kp, F.bindsN fun _ _ _ _ _ _ us hl => match us, hl with | [_], _ => rfl⟩
  obtain ⟨f1', d1, m1, G1, k1, b1⟩ := has_is_list (P := P) (w := w) (base := base) e
  obtain ⟨f2, d2, m2, G2, k2, b2⟩ := has_is_term (P := P) (w := w) (base := base) e
  refine F.okD sc_WTerms (fun vs H Q E h => ?_) (fun cdv A outer s H vs Q E hr h => ?_)
  · obtain ⟨a, ws, ms, rfl, _⟩ := h; rfl
  · obtain ⟨a, ws, ms, rfl, ha, hws, hgd, q⟩ := h
    have hr1 := hr.mono (show 1 ≤ 3 by decide)
    refine ⟨_, pss_cons (ps_if (pt_not (pt_val (pe_call G1 hr1 rfl m1 k1 b1 .nil pass0 (pa_cons (pv 0) pa_nil)))) (pss_one ps_never) pss_nil)
      (pss_one (ps_for (g := gTup K 2 _) PassesOwn.never rfl (pi_enum rfl e.b_enumerate (pa_cons (pv 0) pa_nil)) (pg_tup rfl (pgs_cons (pg_name (i := 1) sc_WTerms.nd rfl (Or.inl rfl)) (pgs_cons (pg_name (i := 2) sc_WTerms.nd rfl (Or.inl rfl)) pgs_nil)))
        (pss_one (ps_if (pt_not (pt_val (pe_call G2 hr rfl m2 k2 b2 .nil pass0 (pa_cons (pv 2) pa_nil)))) (pss_one ps_never) pss_nil)))), ?_⟩
    refine ⟨_, rfl, a, rfl, .inl ⟨_, ha⟩, fun H1 s1 => ?_⟩
    refine ⟨true, rfl, iteF ?_⟩
    refine ⟨_, rfl, a, ws, rfl, s1.seq ha, ?_⟩
    refine for_src (src_enum mn_Tm (hws.mono mn_Tm s1)) (fun i σ H2 => ∃ x2 x3, σ = [some (.ref a), x2, x3] ∧ Same H1 H2) ⟨none, none, rfl, Same.refl _⟩ (fun i σ H2 ⟨x2, x3, e1, s2⟩ => ⟨s2, (s1.trans s2).seq ha⟩) ?_ ?_
    · rintro i ⟨j, m⟩ y σ H2 H3 hb hi ⟨x2, x3, rfl, s2⟩ s3 ⟨T, y1, y2, rfl, hT, e1, hR⟩
      refine ⟨T, _, rfl, SqT.of hT, rfl, _, _, rfl, _, _, rfl, rfl, ?_⟩
      have hmem : m ∈ ms := (List.of_mem_zip (List.mem_of_getElem? hb)).2
      refine ⟨_, rfl, y2, m, rfl, hR, hgd m hmem, fun H4 s4 => ?_⟩
      exact ⟨true, rfl, iteF ⟨_, _, rfl, (s2.trans s3).trans s4⟩⟩
    · rintro σ H2 ⟨x2, x3, rfl, s2⟩
      exact q H2 (s1.trans s2)
end NG

set_option Elab.async false
set_option linter.all false
set_option maxRecDepth 100000
set_option maxHeartbeats 400000
/-! summed and in_order, of one constant term -/
namespace NG
open PySem PySem.Spec PyProof.Rows L2 He
theorem pe_never {X : Cx} {e : Expr} : PE X e (fun _ _ _ => False) := ⟨fun _ _ _ _ _ _ h => h.elim⟩
variable {P : Program} {w : World} {K : Fg} {mg : Str → Option Value} {base : Heap}
abbrev nSum : List Str := ["terms", "found", "number", "keys", "product", "weight"]
theorem sc_Sum : FnScope nSum ["terms"] (defScope f_summed) := ⟨rfl, rfl, rfl, by decide +kernel, rfl, by decide +kernel, by decide +kernel⟩
/-- the weights of a constant -/
def WtC (K : Fg) (H : Hp) (d : Addr) (r : Rat) : Prop := ∃ u, H d = some (.dT [([], u)]) ∧ Rt K H u r
theorem WtC.mono {H H' : Hp} {d : Addr} {r : Rat} (s : Same H H') (h : WtC K H d r) : WtC K H' d r := let ⟨u, h1, h2⟩ := h; ⟨u, s _ _ h1, mn_Rt _ _ _ _ s h2⟩
def spSum (K : Fg) : Sp := fun vs H Q _ => ∃ (a : Addr) (v : V) (r : Rat), vs = [.ref a] ∧ SqL K H a [v] ∧ TmR K H v (r, []) ∧ ∀ d H', Same H H' → WtC K H' d r → Q (.ref d) H'
theorem has_summed (e : Ev K mg) : Has P w K mg base 5 "summed" ["terms"] (spSum K) := by
  obtain ⟨fd, F⟩ := e.F_f_summed
  refine ⟨_, fd, e.g_summed, ?_, F.kp, F.bindsN fun _ _ _ _ _ _ us hl => match us, hl with | [_], _ => rfl⟩
  obtain ⟨f1', d1, m1, G1, k1, b1⟩ := has_as_ratio (P := P) (w := w) (base := base) e
  refine F.okD sc_Sum (fun vs H Q E h => ?_) (fun cdv A outer s H vs Q E hr h => ?_)
  · obtain ⟨a, v, r, rfl, _⟩ := h; rfl
  · obtain ⟨a, v, r, rfl, ha, hv, q⟩ := h
    have hu := hu_of hr
    refine ⟨_, pss_cons (ps_set (i := 1) sc_Sum.nd rfl (Or.inl rfl) pe_dnewT)
      (pss_cons (ps_for (g := gTup K 2 _) PassesOwn.never rfl (pi_list (pv 0)) (pg_tup rfl (pgs_cons (pg_name (i := 2) sc_Sum.nd rfl (Or.inl rfl)) (pgs_cons (pg_name (i := 3) sc_Sum.nd rfl (Or.inl rfl)) pgs_nil)))
        (pss_cons (ps_par (i := 4) (j := 5) rfl sc_Sum.nd rfl rfl (by decide) rfl rfl (pa_cons (pe_callTy call_tuple_of rfl e.b_tuple boot_tuple (pa_cons (pe_callB cr_sortedTS rfl e.b_sorted boot_sorted (pa_cons (pv 3) pa_nil)) pa_nil))
            (pa_cons (pe_call G1 hr rfl m1 k1 b1 .nil pass0 (pa_cons (pv 2) pa_nil)) pa_nil)) (by rfl))
        (pss_one (ps_dput hu (pv 1) (pv 4) (pe_ifExp (pt_cmp (pc_din hu (pv 4) (pv 1)) rfl) pe_never (pv 5)) rfl))))
      (pss_one (ps_ret (pv 1)))), ?_⟩
    intro d hd
    have s1 := same_upd (o := .dT []) hd
    refine ⟨_, rfl, a, rfl, ⟨_, s1.seq ha⟩, ?_⟩
    refine for_src (src_list (H0 := H) mn_Tm (.cons hv .nil)) (fun i σ H2 => ∃ x2 x3 x4 x5, σ = [some (.ref a), some (.ref d), x2, x3, x4, x5] ∧ Same H H2 ∧ (i = 0 → H2 d = some (.dT [])) ∧ (i = 1 → WtC K H2 d r))
      ⟨none, none, none, none, rfl, s1, fun _ => upd_same, fun z => nomatch z⟩ (fun i σ H2 ⟨_, _, _, _, e1, s2, _⟩ => ⟨s2, s2.seq ha⟩) ?_ ?_
    · rintro i m y σ H2 H3 hb hi ⟨x2, x3, x4, x5, rfl, s2, h0, _⟩ s3 hR
      have i0 : i = 0 := by simp at hi; exact hi
      subst i0
      cases hb
      have hd2 := h0 rfl
      obtain ⟨T, y1, E, rfl, hT, hy1, hE⟩ := hR
      refine ⟨T, _, rfl, SqT.of hT, rfl, _, _, rfl, _, _, rfl, rfl, ?_⟩
      refine ⟨_, rfl, E, [], rfl, hE, by decide, fun ys p hperm hsrt hp => ?_⟩
      have eys : ys = [] := List.Perm.eq_nil hperm
      subst eys
      refine ⟨p, _, rfl, .inl ⟨SqL.of upd_same, fun l hl => ?_⟩⟩
      have s4 := (same_upd (o := .lst (([] : List Str).map V.str)) hp).trans (same_upd (o := .tup (([] : List Str).map V.str)) hl)
      refine ⟨_, rfl, y1, r, rfl, mn_Nu _ _ _ _ s4 hy1, fun u H5 s5 hu5 => ?_⟩
      refine ⟨_, _, rfl, ?_⟩
      have hl5 : H5 l = some (.tup (([] : List Key).map kV)) := s5 _ _ upd_same
      have s35 := s3.trans (s4.trans s5)
      have hd5 : H5 d = some (.dT []) := s35 _ _ hd2
      refine ⟨_, rfl, _, rfl, d, none, rfl, .inr ⟨[], [], l, .inl hd5, rfl, hl5, rfl⟩, false, rfl, iteF ?_⟩
      refine ⟨_, rfl, _, rfl, _, rfl, d, _, rfl, DPut.t (k := []) hd5 hl5 (by decide), ?_⟩
      refine ⟨_, _, _, _, rfl, ?_, (fun z => nomatch z), (fun _ => ⟨u, upd_same, ?_⟩)⟩
      · exact Same.butN (s2.trans s35) hd But.upd
      · obtain ⟨b, rfl, dx, hb⟩ := hu5
        exact ⟨b, rfl, dx, by rw [upd_ne (fun z => by subst z; rw [hd5] at hb; exact nomatch hb)]; exact hb⟩
    · rintro σ H2 ⟨x2, x3, x4, x5, rfl, s2, _, h1⟩
      exact ⟨_, rfl, q d H2 s2 (h1 rfl)⟩
end NG

set_option Elab.async false
set_option linter.all false
set_option maxRecDepth 100000
set_option maxHeartbeats 400000
/-! in_order, of one constant term -/
namespace NG
open PySem PySem.Spec PyProof.Rows L2 He
variable {P : Program} {w : World} {K : Fg} {mg : Str → Option Value} {base : Heap}
/-- the keys of a locked dict, tuples -/
def isKT : Rl (List Key) := fun H v k => ∃ q, v = .ref q ∧ H q = some (.tup (k.map kV))
theorem mn_KT : Mn isKT := fun _ _ _ _ s ⟨q, e, h⟩ => ⟨q, e, s _ _ h⟩
theorem src_keysT {d : Addr} {o : Obj} {kvs : List (List Key × V)} : Src (Itkt d o kvs) (fun H => H d = some (.frz o (.dT kvs))) isKT (kvs.map (·.1)) where
  keep := fun _ _ s h => s _ _ h
  go := fun i H h hi => ⟨h, by simpa using hi⟩
  stop := fun H h => ⟨h, by simp⟩
  yld := fun i H x H' h hi y => by
    obtain ⟨rfl, k, v, q, e, rfl, hq⟩ := y
    exact ⟨k, by rw [List.getElem?_map, e]; rfl, ⟨q, rfl, hq⟩, fun _ _ e => e⟩
theorem DGet.rt {H : Hp} {a b : Addr} {kvs : List (List Key × V)} {k : List Key} (e : Rd H a (.dT kvs)) (eb : H b = some (.tup (k.map kV))) : DGet H a (.ref b) (valV kvs k) := .inr ⟨kvs, k, b, e, rfl, eb, rfl⟩
def isAt (b : Addr) : Rl (List Key) := fun H v k => v = .ref b ∧ H b = some (.tup (k.map kV))
theorem mn_At (b : Addr) : Mn (isAt b) := fun _ _ _ _ s ⟨e, h⟩ => ⟨e, s _ _ h⟩
def isPr (b : Addr) (u : V) : Rl (List Key) := fun H v _ => ∃ t, v = .ref t ∧ H t = some (.tup [.ref b, u])
theorem sgn_ne {i : Int} (h : i ≠ 0) : sgn i ≠ 0 := fun z => h ((sgn_zero i).mp z)
abbrev nInO : List Str := ["weights", "products", "product"]
theorem sc_InO : FnScope nInO ["weights"] (defScope f_in_order) := ⟨rfl, rfl, rfl, by decide +kernel, rfl, by decide +kernel, by decide +kernel⟩
def spInO (K : Fg) : Sp := fun vs H Q _ => ∃ (a : Addr) (r : Rat), vs = [.ref a] ∧ WtC K H a r ∧ r.num ≠ 0 ∧ ∀ d H', H d = none → Same H H' → WtC K H' d r → Q (.ref d) H'
theorem has_in_order (e : Ev K mg) : Has P w K mg base 5 "in_order" ["weights"] (spInO K) := by
  obtain ⟨fd, F⟩ := e.F_f_in_order
  refine ⟨_, fd, e.g_in_order, ?_, F.kp, F.bindsN fun _ _ _ _ _ _ us hl => match us, hl with | [_], _ => rfl⟩
  obtain ⟨d5, p5, G5, b5⟩ := ok_sign (P := P) (w := w) (base := base) e
  refine F.okD sc_InO (fun vs H Q E h => ?_) (fun cdv A outer s H vs Q E hr h => ?_)
  · obtain ⟨a, r, rfl, _⟩ := h; rfl
  · obtain ⟨a, r, rfl, ⟨u, ha, hru⟩, hn0, q⟩ := h
    have hu := hu_of hr
    have hr2 := hr.mono (show 2 ≤ 4 by decide)
    refine ⟨_, pss_cons (ps_lock (ps_setLc (i := 1) (own := [("product", 2)]) (g := gName 2) rfl sc_InO.nd rfl rfl (sw_true rfl rfl rfl (by decide +kernel)) (pi_keys (pv 0)) (blkOk_by (N := nInO) (sc := defScope f_in_order) (by decide +kernel))
        (fun _ _ _ _ _ => pg_name (i := 2) sc_InO.nd rfl (Or.inl rfl)) (fun _ _ _ _ _ => pts_one (pt_cmpR op_ne (pe_prop (pe_dget hu (pv 0) (pv 2) (fun _ _ => rfl)) e.cl_Ratio p5 G5 hr2 b5 .nil pass0 rfl) pe_int (nomark _))) (fun _ _ _ _ _ => pv 2)))
      (pss_one (ps_ret (pe_callTy (call_dictPT rfl (Nat.lt_of_le_of_lt (Nat.add_le_add_left (by decide) _) hr.units)) rfl e.b_dict boot_dict (pa_cons (pe_lc (own := [("product", 2)]) (g := gName 2) (tt := tYes) rfl sc_InO.nd
        (pi_list (pe_callBK (cr_sortP e e.g_product_key hr) rfl e.b_sorted boot_sorted (pa_cons (pv 1) pa_nil) (pk_cons (pe_glob rfl e.g_product_key (v := .ref (ga K "product_key")) rfl) pk_nil))) (blkOk_by (N := nInO) (sc := defScope f_in_order) (by decide +kernel))
        (fun _ _ _ _ _ => pg_name (i := 2) sc_InO.nd rfl (Or.inl rfl)) (fun _ _ _ _ _ => pts_nil) (fun _ _ _ _ _ => pe_tup (pa_cons (pv 2) (pa_cons (pe_dget hu (pv 0) (pv 2) (fun _ _ => rfl)) pa_nil)))) pa_nil)))), ?_⟩
    refine ⟨a, _, ha, trivial, fun od => ?_⟩
    refine ⟨_, rfl, a, od, rfl, .inr ⟨_, upd_same, fun D hD => ?_⟩⟩
    have hDa : D ≠ a := fun z => by rw [z, upd_same] at hD; exact nomatch hD
    have hru1 : Rt K (upd H a (.frz od (.dT [([], u)]))) u r := by
      obtain ⟨b, rfl, dx, hb⟩ := hru
      exact ⟨b, rfl, dx, by rw [upd_ne (fun z => by subst z; rw [ha] at hb; exact nomatch hb)]; exact hb⟩
    refine lc_src (src_keysT (d := a) (o := od) (kvs := [([], u)])) isKT (fun k => k) (fun _ => true) upd_same hD (by show 1 < sizeLine; decide) ?_ ?_
    · rintro j k y H3 acc Nx hp s3 hd3 ⟨b, rfl, hb⟩ hD3 hl3 _ _ kT
      have ek : k = [] := by
        have := List.mem_of_getElem? hp
        simp at this; exact this
      subst ek
      refine ⟨rfl, ?_⟩
      refine ⟨_, rfl, _, rfl, a, u, rfl, DGet.rt (.inr ⟨od, hd3⟩) hb, ?_⟩
      obtain ⟨c, rfl, dx, hc⟩ := mn_Rt _ _ _ _ s3 hru1
      refine ⟨c, dx, _, rfl, hc, .ref c, r, rfl, ⟨c, rfl, dx, hc⟩, rfl, _, rfl, ?_⟩
      rw [decide_eq_false (show ¬ V.int (sgn r.num) = V.int 0 from fun z => by injection z with z; exact sgn_ne hn0 z)]
      refine iteT ⟨_, rfl, acc, hD3, hl3, kT rfl _ _ (Same.refl _) fun H5 b5 => ⟨b, rfl, b5 _ _ (fun z => by subst z; rw [hD3] at hb; exact nomatch hb) hb⟩⟩
    · intro H3 ys s3 hy he
      rw [filt] at he
      have he3 := he H3 fun _ _ _ z => z
      have he4 : Each isKT H3 ys [[]] := by simpa using he3
      cases he4 with
      | cons hb t =>
        cases t
        obtain ⟨b, rfl, hb⟩ := hb
        have hb : H3 b = some (.tup []) := hb
        have sU := unlock_same ha s3
        have ha4 : upd H3 a (.dT [([], u)]) a = some (.dT [([], u)]) := upd_same
        have hD4 : upd H3 a (.dT [([], u)]) D = some (.lst [.ref b]) := by rw [upd_ne hDa]; exact hy
        have hb4 : upd H3 a (.dT [([], u)]) b = some (.tup []) := by rw [upd_ne (fun z => by subst z; rw [s3 _ _ upd_same] at hb; exact nomatch hb)]; exact hb
        refine ⟨s3 _ _ upd_same, ?_⟩
        generalize upd H3 a (.dT [([], u)]) = H4 at sU ha4 hD4 hb4 ⊢
        refine ⟨_, rfl, D, [(b, [])], rfl, rfl, SqL.of hD4, ?_, fun p bs' hp hperm => ?_⟩
        · intro x hx
          rw [List.mem_singleton] at hx
          subst hx
          exact hb4
        · have ebs : bs' = [(b, [])] := List.perm_singleton.mp hperm
          subst ebs
          have s5 := same_upd (o := .lst [V.ref b]) hp
          refine ⟨p, rfl, ⟨_, SqL.of upd_same⟩, fun D2 hD2 => ?_⟩
          have hb5 := s5 _ _ hb4
          have hru4 : Rt K H4 u r := mn_Rt _ _ _ _ sU hru
          refine lc_src (src_list (R := isAt b) (H0 := upd H4 p (.lst [V.ref b])) (bs := [[]]) (mn_At b) (.cons ⟨rfl, hb5⟩ .nil)) (isPr b u) (fun k => k) (fun _ => true) ⟨Same.refl _, SqL.of upd_same⟩ hD2 (by show 1 < sizeLine; decide) ?_ ?_
          · rintro j k y H6 acc Nx hp6 s6 _ ⟨rfl, hb6⟩ hD6 hl6 _ _ kT
            have ek : k = [] := by
              have := List.mem_of_getElem? hp6
              simp at this; exact this
            subst ek
            refine ⟨rfl, tYes_of ?_⟩
            have ha6 := (s5.trans s6) _ _ ha4
            refine ⟨_, rfl, _, rfl, _, rfl, a, u, rfl, DGet.t ha6 hb6, (by show 2 ≤ sizeLine; decide), fun t ht => ?_⟩
            have s7 := same_upd (o := .tup [.ref b, u]) ht
            refine ⟨acc, s7 _ _ hD6, hl6, kT rfl _ _ s7 fun H7 b7 => ⟨t, rfl, b7 _ _ ?_ upd_same⟩⟩
            exact fun z => by subst z; rw [hD6] at ht; exact nomatch ht
          · intro H6 zs s6 hz he6
            rw [filt] at he6
            have he7 : Each (isPr b u) H6 zs [[]] := by simpa using he6 H6 fun _ _ _ z => z
            cases he7 with
            | cons ht t =>
              cases t
              obtain ⟨T, rfl, hT⟩ := ht
              have s46 := s5.trans s6
              refine ⟨D2, [T], [([], b, u)], rfl, SqL.of hz, .cons ⟨SqT.of hT, s46 _ _ hb4⟩ .nil, fun d hd => ?_⟩
              have s7 := same_upd (o := .dT [([], u)]) hd
              have sA := (sU.trans s46).trans s7
              exact q d _ (none_of (sU.trans s46) hd) sA ⟨u, upd_same, mn_Rt _ _ _ _ sA hru⟩
end NG

set_option Elab.async false
set_option linter.all false
set_option maxRecDepth 100000
set_option maxHeartbeats 400000
/-! Question.__init__, constant -/
namespace NG
open PySem PySem.Spec PyProof.Rows L2 He
section
variable {X : Cx} {CX : CXT} {k : Nat} {C f : Addr} {fd : FuncData} {ps : List Str} {sp : Sp} {dvs : List V} {ds : List Value} {E : XK} {x : Str} {p pos : Pos} {e : Expr} {es : List Expr} {t : TA} {tf : TE}
/-- c(..), c a name of the def that holds a class -/
theorem pe_makeV (M : Mk X.K C f) (F : FnOk X.prog X.w X.K X.mg X.base CX k f fd ps sp) (hr : Room (k + 1) X.A) (hb : Binds X.K fd ps ds) (hd : Vals dvs ds) (hx : Passes CX X E) (hf : PE X (.Name x p) tf)
    (ha : PA X (e :: es) t) (he : starEach (e :: es) X.env = (false, eval e X.env) :: starEach es X.env := by rfl) (hpl : (backTo pos (starEach es X.env)).any (·.1) = false := by rfl) :
    PE X (.Call (.Name x p) (e :: es) [] pos) (fun σ H Q => tf σ H fun c H1 => c = .ref C ∧ tMake C sp dvs E t σ H1 Q) := by
  refine ⟨fun pins s σ H Q I h => ?_⟩
  refine wpAny_Call_Name_kw (thn (hf.run pins s σ H _ I h) fun u s0 ⟨c, H0, I0, rc, ec, q0⟩ => ?_)
  subst ec
  obtain rfl : u = Value.ref C := rc
  refine PySem.W.callWith_K (h₀ := X.base) I.ok.mod.kin M.kp (thn (ha.run pos pins s0 σ H0 _ I0 q0) fun us s1 ⟨vs, H1, I1, r, q⟩ => ⟨I1.kIn, ?_⟩) he hpl
  exact run_make M F hr hb hd hx I1 r q
end
variable {P : Program} {w : World} {K : Fg} {mg : Str → Option Value} {base : Heap}
/-- a constant question -/
def QuA (K : Fg) (H : Hp) (a : Addr) (r : Rat) : Prop := ∃ dx d, H a = some (.ins (ga K "Question") dx (f1 "own_weights" (.ref d))) ∧ WtC K H d r
theorem QuA.mono {H H' : Hp} {a : Addr} {r : Rat} (s : Same H H') (h : QuA K H a r) : QuA K H' a r := let ⟨dx, d, h1, h2⟩ := h; ⟨dx, d, s _ _ h1, h2.mono s⟩
theorem sc_QInit : FnScope ["self", "terms"] ["self", "terms"] (defScope m_Question_init) := ⟨rfl, rfl, rfl, by decide +kernel, rfl, by decide +kernel, by decide +kernel⟩
def spQInit (K : Fg) : Sp := fun vs H Q _ => ∃ (x dx a : Addr) (v : V) (r : Rat), vs = [.ref x, .ref a] ∧ SqL K H a [v] ∧ TmR K H v (r, []) ∧ r.num ≠ 0 ∧ H x = some (.ins (ga K "Question") dx []) ∧
  ∀ H', But x H H' → QuA K H' x r → Q .non H'
theorem rfs_ne (i : Int) (n : Nat) : rfs i n ≠ [] := fun z => by
  have := rfs_top i n
  rw [z] at this
  exact nomatch this
theorem WtC.upd {H : Hp} {d x C dx : Addr} {o : HO} {r : Rat} (h : WtC K H d r) (hx : H x = some (.ins C dx [])) : WtC K (upd H x o) d r := by
  obtain ⟨u, h1, c, rfl, dc, hc⟩ := h
  refine ⟨.ref c, ?_, c, rfl, dc, ?_⟩
  · rw [upd_ne (fun z => by subst z; rw [hx] at h1; exact nomatch h1)]; exact h1
  · rw [upd_ne (fun z => ?_)]
    · exact hc
    · subst z
      rw [hx] at hc
      have e := Option.some.inj hc
      injection e with e1 e2 e3
      exact rfs_ne _ _ e3.symm
theorem hasC_Question (e : Ev K mg) : HasC P w K mg base 6 "Question" ["self", "terms"] [] (spQInit K) := by
  obtain ⟨fd, F⟩ := e.F_m_Question_init
  obtain ⟨ds, hv, hb⟩ := FunD.binds1 (ps := ["self", "terms"]) F 2 1 (by simp) rfl (fun T kV doc pm an cdv ct us its h1 h2 => match us, its, h1, h2 with | [_, _], [_], _, _ => ⟨_, rfl, rfl⟩)
  obtain ⟨f1', d1, m1, G1, k1, b1⟩ := has_want_terms (P := P) (w := w) (base := base) e
  obtain ⟨f2, d2, m2, G2, k2, b2⟩ := has_summed (P := P) (w := w) (base := base) e
  obtain ⟨f3, d3, m3, G3, k3, b3⟩ := has_in_order (P := P) (w := w) (base := base) e
  refine ⟨fd, ds, e.mk_Question, e.g_Question, ?_, hv, hb⟩
  refine F.okD sc_QInit (fun vs H Q E h => ?_) (fun cdv A outer s H vs Q E hr h => ?_)
  · obtain ⟨x, dx, a, v, r, rfl, _⟩ := h; rfl
  · obtain ⟨x, dx, a, v, r, rfl, ha, hv, hn0, hx, q⟩ := h
    have hr4 := hr.mono (show 4 ≤ 5 by decide)
    refine ⟨_, pss_cons (ps_expr (pe_call G1 hr4 rfl m1 k1 b1 .nil pass0 (pa_cons (pv 1) pa_nil)))
      (pss_one (ps_fld (pv 0) (pe_call G3 hr rfl m3 k3 b3 .nil pass0 (pa_cons (pe_call G2 hr rfl m2 k2 b2 .nil pass0 (pa_cons (pv 1) pa_nil)) pa_nil)) rfl)), ?_⟩
    refine ⟨_, rfl, a, _, _, rfl, ha, .cons hv .nil, fun m hm => ?_, fun H1 s1 => ?_⟩
    · rw [List.mem_singleton] at hm
      subst hm
      exact ⟨by simp, fun k hk => by simp at hk⟩
    · refine ⟨_, rfl, a, v, r, rfl, s1.seq ha, mn_Tm _ _ _ _ s1 hv, fun d H2 s2 hd => ?_⟩
      refine ⟨d, r, rfl, hd, hn0, fun d' H3 hd0 s3 hd' => ?_⟩
      have s13 := s1.trans (s2.trans s3)
      have hx3 := s13 _ _ hx
      refine ⟨_, rfl, x, _, dx, _, rfl, hx3, e.cl_Question, e.n_Question_own_weights, (by decide), ?_⟩
      exact q _ ((But.of_same s13).trans But.upd) ⟨dx, d', upd_same, hd'.upd hx3⟩
/-! ### Question.constant -/
theorem sc_QConst : FnScope ["cls", "number"] ["cls", "number"] (defScope m_Question_constant) := ⟨rfl, rfl, rfl, by decide +kernel, rfl, by decide +kernel, by decide +kernel⟩
def spQConst (K : Fg) : Sp := fun vs H Q _ => ∃ (x : V) (r : Rat), vs = [.ref (ga K "Question"), x] ∧ Nu K H x r ∧ r.num ≠ 0 ∧ ∀ a H', Same H H' → QuA K H' a r → Q (.ref a) H'
theorem hasK_constant (e : Ev K mg) : ∃ fd, ClX.CRead K (ga K "Question") (.type "type") ∧ ClX.CMet K (ga K "Question") (.type "type") "constant" (cmP K (ga K "Question") "constant") (cmG K (ga K "Question") "constant") ∧
    FnOk P w K mg base CX0 8 (cmG K (ga K "Question") "constant") fd ["cls", "number"] (spQConst K) ∧ Binds K fd ["cls", "number"] [] := by
  obtain ⟨fd, F⟩ := e.F_m_Question_constant
  have c := e.cm_constant
  refine ⟨fd, ⟨c.rd, c.ga⟩, ⟨c.at_, c.rc, c.fi⟩, ?_, F.bindsN fun _ _ _ _ _ _ us hl => match us, hl with | [_, _], _ => rfl⟩
  obtain ⟨f1', d1, m1, G1, k1, b1⟩ := has_is_number (P := P) (w := w) (base := base) e
  obtain ⟨d2, ds2, M2, m2, G2, v2, b2⟩ := hasC_Question (P := P) (w := w) (base := base) e
  refine F.okD sc_QConst (fun vs H Q E h => ?_) (fun cdv A outer s H vs Q E hr h => ?_)
  · obtain ⟨x, r, rfl, _⟩ := h; rfl
  · obtain ⟨x, r, rfl, hx, hn0, q⟩ := h
    have hr2 := hr.mono (show 2 ≤ 7 by decide)
    refine ⟨_, pss_cons (ps_if (pt_not (pt_val (pe_call G1 hr2 rfl m1 k1 b1 .nil pass0 (pa_cons (pv 1) pa_nil)))) (pss_one ps_never) pss_nil)
      (pss_one (ps_ret (pe_makeV M2 G2 hr b2 v2 pass0 (pv 0) (pa_cons (pe_lst (pa_cons (pe_tup (pa_cons (pv 1) (pa_cons (pe_tup pa_nil) pa_nil))) pa_nil)) pa_nil)))), ?_⟩
    refine ⟨_, rfl, x, r, rfl, hx, true, rfl, iteF ?_⟩
    refine ⟨_, rfl, rfl, ?_⟩
    refine ⟨_, rfl, (by show 0 ≤ sizeLine; decide), fun E hE => ⟨(by show 2 ≤ sizeLine; decide), fun T hT => ⟨(by show 1 ≤ sizeLine; decide), fun l hl => ?_⟩⟩⟩
    have x1 := same_upd (o := .tup []) hE
    have x2 := same_upd (o := .tup [x, .ref E]) hT
    have x3 := same_upd (o := .lst [.ref T]) hl
    refine fun y yd ny nd hne => ?_
    have x4 := made_mono (C := ga K "Question") (dx := yd) ny nd
    refine ⟨y, yd, l, .ref T, r, rfl, SqL.of (x4 _ _ upd_same), ⟨T, x, E, rfl, x4 _ _ (x3 _ _ upd_same), mn_Nu _ _ _ _ (x1.trans (x2.trans (x3.trans x4))) hx, (x2.trans (x3.trans x4)).tup (SqT.of upd_same)⟩, hn0, upd_same, fun H' bx hq => ⟨rfl, ?_⟩⟩
    exact q y H' (x1.trans (x2.trans (x3.trans (made_same ny nd bx)))) hq
end NG

set_option Elab.async false
set_option linter.all false
set_option maxRecDepth 100000
set_option maxHeartbeats 400000
/-! _law_sketch -/
namespace NG
open PySem PySem.Spec PyProof.Rows L2 He
variable {P : Program} {w : World} {K : Fg} {mg : Str → Option Value} {base : Heap}
def totM (md : List MdE) : Int := (md.map fun m => m.2.1).sum
def SkOfE (t : Int) (m : MdE) (s : SkE) : Prop := s.1 = m.1 ∧ s.2.1 = mkRat m.2.1 t.toNat ∧ Paired KeptOf m.2.2 s.2.2
def SkOf (md : List MdE) (sk : List SkE) : Prop := Paired (SkOfE (totM md)) md sk
theorem tot_pos {md : List MdE} (h : ∀ m ∈ md, 1 ≤ m.2.1 ∧ m.2.1 ≤ 3) : (md.length : Int) ≤ totM md ∧ totM md ≤ 3 * md.length := by
  unfold totM
  induction md with
  | nil => simp
  | cons m r ih =>
    have h1 := h m List.mem_cons_self
    have h2 := ih fun x hx => h x (List.mem_cons_of_mem _ hx)
    simp only [List.map_cons, List.sum_cons, List.length_cons]
    omega
theorem nms_ok : ∀ n, n ≤ 4 → ((List.range n).map nmS).Nodup ∧ ∀ k ∈ (List.range n).map nmS, keyS k = true := by decide +kernel
theorem mk_add (a b : Int) {t : Nat} (ht : t ≠ 0) : mkRat a t + mkRat b t = mkRat (a + b) t := by
  rw [Rat.mkRat_add_mkRat _ _ ht ht, ← Int.add_mul, Rat.mkRat_mul_right ht]
theorem sum_mk {t : Nat} (ht : t ≠ 0) : ∀ (l : List Int) (a : Int), (l.map fun x => mkRat x t).foldl (· + ·) (mkRat a t) = mkRat (a + l.sum) t
  | [], a => by simp
  | x :: l, a => by
    rw [List.map_cons, List.foldl_cons, mk_add a x ht, sum_mk ht l (a + x), List.sum_cons, Int.add_assoc]
theorem paired_map {α β γ : Type} {G : α → β → Prop} (f : α → γ) (g : β → γ) (h : ∀ a b, G a b → g b = f a) : ∀ {l : List α} {m : List β}, Paired G l m → m.map g = l.map f
  | _, _, .nil => rfl
  | _, _, .cons r t => by rw [List.map_cons, List.map_cons, h _ _ r, paired_map f g h t]
theorem paired_mem {α β : Type} {G : α → β → Prop} : ∀ {l : List α} {m : List β}, Paired G l m → ∀ b ∈ m, ∃ a ∈ l, G a b
  | _, _, .nil, b, hb => by simp at hb
  | _, _, .cons r t, b, hb => by
    rcases List.mem_cons.mp hb with rfl | hb
    · exact ⟨_, List.mem_cons_self, r⟩
    · obtain ⟨a, ha, h⟩ := paired_mem t b hb
      exact ⟨a, List.mem_cons_of_mem _ ha, h⟩
theorem kept_good {m : Nat} {ks : List Str} {r r' : Row} (h : GoodRow m ks r) (hk : KeptOf r r') : GoodRow m ks r' := by
  refine ⟨hk.1, fun k hk' => ?_, fun p hp => ?_⟩
  · obtain ⟨p, hp, rfl⟩ := List.mem_map.mp hk'
    have := getR_of (hk.2.2.1 p hp).2
    exact h.2.1 _ (List.mem_map.mpr ⟨_, this, rfl⟩)
  · exact h.2.2 (p.1, p.2) (getR_of (hk.2.2.1 p hp).2)
theorem flat_len {α β : Type} {f : α → List β} {n : Nat} : ∀ (l : List α), (∀ a ∈ l, (f a).length ≤ n) → (l.flatMap f).length ≤ n * l.length
  | [], _ => by simp
  | a :: l, h => by
    have h1 := flat_len l fun b hb => h b (List.mem_cons_of_mem _ hb)
    have h2 := h a List.mem_cons_self
    rw [List.flatMap_cons, List.length_append, List.length_cons, Nat.mul_add, Nat.mul_one]
    omega
theorem sk_ok {ks : List Str} {md : List MdE} {sk : List SkE} (hg : GoodMd ks md) (h1 : 1 ≤ md.length) (h4 : md.length ≤ 4) (hk : ks.length ≤ 3) (h : SkOf md sk) : SkOk sk := by
  obtain ⟨hnm, hgd⟩ := hg
  have hl : md.length = sk.length := Paired.length h
  have hnames : sk.map (·.1) = (List.range md.length).map nmS := (paired_map (·.1) (·.1) (fun a b r => r.1) h).trans hnm
  obtain ⟨hT1, hT2⟩ := tot_pos fun m hm => (hgd m hm).1
  have hT0 : (totM md).toNat ≠ 0 := by omega
  obtain ⟨nd, key⟩ := nms_ok md.length h4
  have good : ∀ s ∈ sk, s.2.2.length ≤ 3 ∧ ∀ r ∈ s.2.2, GoodRow 3 ks r := fun s hs => by
    obtain ⟨m, hm, r1, r2, r3⟩ := paired_mem h s hs
    have hgm := (hgd m hm).2
    refine ⟨by have : m.2.2.length = s.2.2.length := Paired.length r3; have := hgm.1; omega, fun r hr => ?_⟩
    obtain ⟨r0, hr0, hk0⟩ := paired_mem r3 r hr
    exact kept_good (hgm.2 r0 hr0) hk0
  refine ⟨by rw [hnames]; exact nd, fun s hs => key _ (by rw [← hnames]; exact List.mem_map.mpr ⟨s, hs, rfl⟩), by omega, by omega, fun s hs => ?_, fun s hs => ?_, ?_, fun s hs => ?_, ks, by omega, fun k hk' => ?_⟩
  · obtain ⟨m, hm, r1, r2, r3⟩ := paired_mem h s hs
    have hw := (hgd m hm).1
    rw [r2, mk_num (by omega)]
    have g0 : (0 : Int) < (Nat.gcd m.2.1.natAbs (totM md).natAbs : Nat) := by
      have := Nat.gcd_pos_of_pos_left (totM md).natAbs (show 0 < m.2.1.natAbs by omega)
      omega
    have g1 := Nat.gcd_le_left (totM md).natAbs (show 0 < m.2.1.natAbs by omega)
    have : (1 : Int) ≤ m.2.1 / (Nat.gcd m.2.1.natAbs (totM md).natAbs : Nat) := (Int.le_ediv_iff_mul_le g0).mpr (by omega)
    omega
  · obtain ⟨m, hm, r1, r2, r3⟩ := paired_mem h s hs
    have hw := (hgd m hm).1
    rw [r2]
    refine bd_mk (n := 64) (t := m.2.1) (b := totM md) (by omega) ?_ ?_ <;> (have e64 : (2 : Nat) ^ 64 = 18446744073709551616 := rfl) <;> omega
  · have e : (sk.map fun m => m.2.1) = (md.map fun m => m.2.1).map fun x => mkRat x (totM md).toNat := by
      rw [List.map_map]
      exact paired_map (fun m : MdE => mkRat m.2.1 (totM md).toNat) (fun s : SkE => s.2.1) (fun a b r => r.2.1) h
    unfold sumW
    rw [e]
    have := sum_mk hT0 (md.map fun m => m.2.1) 0
    rw [Rat.zero_mkRat, Int.zero_add] at this
    rw [this]
    have e1 := Rat.mkRat_mul_right (n := 1) (d := 1) hT0
    have e2 : (1 : Int) * ((totM md).toNat : Int) = totM md := by omega
    rw [e2, Nat.one_mul] at e1
    show mkRat (totM md) _ = 1
    rw [e1]
    rfl
  · obtain ⟨g1, g2⟩ := good s hs
    refine ⟨by omega, ?_⟩
    have := flat_len (f := fun r : Row => r.map (·.1)) (n := 3) s.2.2 fun r hr => by have := (g2 r hr).len; rw [List.length_map]; omega
    unfold allKs
    omega
  · obtain ⟨s, hs, hk2⟩ := List.mem_flatMap.mp hk'
    obtain ⟨r, hr, hk3⟩ := List.mem_flatMap.mp hk2
    exact ((good s hs).2 r hr).2.1 k hk3
/-! ### the walk -/
abbrev nLSk : List Str := ["model", "total", "name", "weight", "note"]
theorem sc_lsk : FnScope nLSk ["model"] (defScope f__law_sketch) := ⟨rfl, rfl, rfl, by decide +kernel, rfl, by decide +kernel, by decide +kernel⟩
def spLSk (K : Fg) : Sp := fun vs H Q _ => ∃ v md ks, vs = [v] ∧ MdsR K H v md ∧ GoodMd ks md ∧ 1 ≤ md.length ∧ md.length ≤ 4 ∧ ks.length ≤ 3 ∧ (∀ k ∈ ks, keyS k = true) ∧ ∀ u sk H', Same H H' → SkR K H' u sk → SkOf md sk → Q u H'
theorem has_lsk (e : Ev K mg) : Has P w K mg base 8 "_law_sketch" ["model"] (spLSk K) := by
  obtain ⟨fd, F⟩ := e.F_f__law_sketch
  refine ⟨_, fd, e.g__law_sketch, ?_, F.kp, F.bindsN fun _ _ _ _ _ _ us hl => match us, hl with | [_], _ => rfl⟩
  obtain ⟨d1, ds1, M1, m1, G1, v1, b1⟩ := hasC_Ratio2 (P := P) (w := w) (base := base) e
  obtain ⟨d2, ds2, M2, m2, G2, v2, b2⟩ := hasC_Note (P := P) (w := w) (base := base) e
  obtain ⟨d3, ds3, M3, m3, G3, v3, b3⟩ := hasC_Sketch (P := P) (w := w) (base := base) e
  refine F.okD sc_lsk (fun vs H Q E h => ?_) (fun cdv A outer s H vs Q E hr h => ?_)
  · obtain ⟨v, md, ks, rfl, _⟩ := h; rfl
  · obtain ⟨v, md, ks, rfl, ⟨a, ws, rfl, ha, hmd⟩, hg, hl1, hl4, hk3, hkk, q⟩ := h
    have hr3 := hr.mono (show 3 ≤ 7 by decide)
    have hr4 := hr.mono (show 4 ≤ 7 by decide)
    refine ⟨_, pss_cons (ps_set (i := 1) sc_lsk.nd rfl (Or.inr rfl) (pe_callB (show CallR _ (.builtin "sum") (rSum K) from cr_sum rfl) rfl e.b_sum bt_sum (pa_cons (pe_lc (own := [("name", 2), ("weight", 3), ("note", 4)]) (g := gTup K 3 _) (tt := tYes) rfl sc_lsk.nd (pi_list (pv 0)) (blkOk_by (N := nLSk) (sc := defScope f__law_sketch) (by decide +kernel))
        (fun _ _ _ _ _ => pg_tup rfl (pgs_cons (pg_name (i := 2) sc_lsk.nd rfl (Or.inl rfl)) (pgs_cons (pg_name (i := 3) sc_lsk.nd rfl (Or.inl rfl)) (pgs_cons (pg_name (i := 4) sc_lsk.nd rfl (Or.inl rfl)) pgs_nil)))) (fun _ _ _ _ _ => pts_nil) (fun _ _ _ _ _ => pv 3)) pa_nil)))
      (pss_one (ps_ret (pe_make M3 G3 hr rfl m3 b3 v3 pass0 (pa_cons (pe_lc (own := [("name", 2), ("weight", 3), ("note", 4)]) (g := gTup K 3 _) (tt := tYes) rfl sc_lsk.nd (pi_list (pv 0)) (blkOk_by (N := nLSk) (sc := defScope f__law_sketch) (by decide +kernel))
        (fun _ _ _ _ _ => pg_tup rfl (pgs_cons (pg_name (i := 2) sc_lsk.nd rfl (Or.inl rfl)) (pgs_cons (pg_name (i := 3) sc_lsk.nd rfl (Or.inl rfl)) (pgs_cons (pg_name (i := 4) sc_lsk.nd rfl (Or.inl rfl)) pgs_nil)))) (fun _ _ _ _ _ => pts_nil)
        (fun _ _ _ _ _ => pe_tup (pa_cons (pv 2) (pa_cons (pe_make M1 G1 hr3 rfl m1 b1 v1 pass0 (pa_cons (pv 3) (pa_cons (pv 1) pa_nil))) (pa_cons (pe_make M2 G2 hr4 rfl m2 b2 v2 pass0 (pa_cons (pv 4) pa_nil)) pa_nil))))) pa_nil)))), ?_⟩
    refine ⟨_, rfl, a, rfl, ⟨_, ha⟩, fun D hD => ?_⟩
    refine lc_src (src_list mn_Md hmd) isI (fun m => m.2.1) (fun _ => true) ⟨Same.refl _, ha⟩ hD (small1000 (by omega)) ?_ ?_
    · intro i m y H2 acc Nx hb s2 _ ⟨T, y3, ey, hT, hy3⟩ hD2 hl2 _ _ kT
      subst ey
      refine ⟨T, _, rfl, SqT.of hT, rfl, _, _, rfl, _, _, rfl, _, _, rfl, rfl, rfl, tYes_of ?_⟩
      exact ⟨_, rfl, acc, hD2, hl2, kT rfl _ _ (Same.refl _) fun _ _ => rfl⟩
    intro H2 ys s2 hy he
    have ey := (he H2 fun _ _ _ z => z).eq_map V.int (fun _ _ z => z)
    rw [filt] at ey
    refine ⟨D, _, rfl, SqL.of (by rw [hy, ey]), ?_⟩
    show tSeq _ _ _ [some (.ref a), some (.int (totM md)), none, none, none] H2
    obtain ⟨hT1, hT2⟩ := tot_pos fun m hm => (hg.2 m hm).1
    refine ⟨_, rfl, a, rfl, ⟨_, s2.seq ha⟩, fun D hD => ?_⟩
    refine lc_src (src_list mn_Md (hmd.mono mn_Md s2)) (fun H v m => ∃ s, SdR K H v s ∧ SkOfE (totM md) m s) (fun m => m) (fun _ => true) ⟨Same.refl _, s2.seq ha⟩ hD (small1000 (by omega)) ?_ ?_
    · intro i m y H3 acc Nx hb s3 _ ⟨T, y3, ey, hT, hy3⟩ hD3 hl3 _ _ kT
      subst ey
      have hm : m ∈ md := List.mem_of_getElem? hb
      obtain ⟨hw, hgr⟩ := hg.2 m hm
      refine ⟨T, _, rfl, SqT.of hT, rfl, _, _, rfl, _, _, rfl, _, _, rfl, rfl, rfl, tYes_of ?_⟩
      refine ⟨_, rfl, _, rfl, _, rfl, fun xr dr nx nd hne => ?_⟩
      refine ⟨xr, dr, m.2.1, totM md, rfl, by omega, ?_, upd_same, rfl, ?_⟩
      · refine Nat.lt_of_lt_of_le (show (totM md).natAbs < 2 ^ 64 from ?_) (Nat.pow_le_pow_right (by decide) (by decide))
        have e64 : (2 : Nat) ^ 64 = 18446744073709551616 := rfl
        omega
      obtain ⟨sR, hR0⟩ := made_Rt (K := K) (r := mkRat m.2.1 (totM md).toNat) nx nd hne
      generalize (upd (upd (upd H3 dr (.own xr)) xr (.ins (ga K "Ratio") dr [])) xr (.ins (ga K "Ratio") dr (rfs (mkRat m.2.1 (totM md).toNat).num (mkRat m.2.1 (totM md).toNat).den))) = H4 at sR hR0 ⊢
      refine ⟨_, rfl, fun xn dn nxn ndn hnen => ?_⟩
      have hD4 := sR _ _ hD3
      have sM := made_mono (C := ga K "Note") (dx := dn) nxn ndn
      refine ⟨xn, dn, y3, m.2.2, rfl, mn_Rows _ _ _ _ (sR.trans sM) hy3, fun r hr' => ?_, by have := hgr.1; omega, upd_same, fun H5 l n hln bx hx5 hls hpk => ⟨rfl, ?_⟩⟩
      · have hgo := hgr.2 r hr'
        exact ⟨hgo.1, by have := hgo.len; omega, fun p hp => hkk _ (hgo.2.1 _ (List.mem_map.mpr ⟨p, hp, rfl⟩))⟩
      have s45 : Same H4 H5 := made_same nxn ndn bx
      refine ⟨(by show 3 ≤ sizeLine; decide), fun W hW => ?_⟩
      have sW := same_upd (o := .tup [.str m.1, .ref xr, .ref xn]) hW
      have hD5 := s45 _ _ hD4
      have hD6 := sW _ _ hD5
      refine ⟨acc, hD6, hl3, kT rfl _ _ ((sR.trans s45).trans sW) fun H6 b6 => ?_⟩
      have sd : Same (del D (upd H5 W (.tup [.str m.1, .ref xr, .ref xn]))) H6 := fun c o ec => by
        have hc : c ≠ D := fun z => by subst z; unfold del at ec; rw [if_pos rfl] at ec; exact nomatch ec
        exact b6 _ _ hc (del_same _ _ ec)
      have hWD : W ≠ D := fun z => by subst z; rw [hD5] at hW; exact nomatch hW
      refine ⟨(m.1, mkRat m.2.1 (totM md).toNat, n), mn_Sd _ _ _ _ sd ⟨W, .ref xr, .ref xn, rfl, by rw [del_ne hWD, upd_same], ?_, xn, rfl, dn, l, ?_, ?_⟩, rfl, rfl, hpk⟩
      · obtain ⟨c, ec, dc, hc⟩ := hR0
        exact ⟨c, ec, dc, by rw [del_ne (fun z => by subst z; rw [hD4] at hc; exact nomatch hc)]; exact (s45.trans sW) _ _ hc⟩
      · rw [del_ne (fun z => by subst z; rw [hD4] at nxn; exact nomatch nxn)]
        exact sW _ _ hx5
      · obtain ⟨us, hus, heu⟩ := hls
        refine ⟨us, ?_, heu.imp fun v r _ hv => (mn_Row _ _ _ _ sW hv).del hD6⟩
        rw [del_ne (fun z => by subst z; rw [sM _ _ hD4] at hln; exact nomatch hln)]
        exact sW _ _ hus
    · intro H3 ys3 s3 hy3 he3
      rw [filt, List.map_id'] at he3
      obtain ⟨sk, hsd, hso⟩ := each_ex (he3 H3 fun _ _ _ z => z)
      intro x dx nx nd hne
      have sM := same_del (made_mono (C := ga K "Sketch") (dx := dx) nx nd) nx
      refine ⟨x, dx, D, ys3, sk, rfl, upd_same, SqL.of (sM _ _ hy3), hsd.mono mn_Sd sM, sk_ok hg hl1 hl4 hk3 hso, fun H4 bx hA => ⟨rfl, ?_⟩⟩
      exact q _ sk H4 ((s2.trans s3).trans (made_same nx nd bx)) ⟨x, rfl, hA⟩ hso
end NG

set_option Elab.async false
set_option linter.all false
set_option maxRecDepth 100000
set_option maxHeartbeats 400000
/-! len of an own instance -/
namespace PySem.W
open PySem PySem.Calls PyProof.Rows
section
variable {prog : Program} {w : World} {A : Around} {E : Value → Shared → Prop} {s : Shared} {K : Frag} {x C f : Addr} {ox : Obj} {od : Option Obj}
theorem ng_len {Q : Value → Shared → Prop} (X : K.In s.heap) (I : InstAt s.heap x ox C od) (hs : findIn K (.ref C) "__len__" = some (some (.ref f))) (hf : isFn K (.ref f) = true)
    (h : wpAny (model prog w) A.in1 (call (.ref f) [.ref x]) (fun r s₁ => ∃ (n : Nat) (u : Tok), r = Value.int n u ∧ n < 2 ^ 63 ∧ ∀ t t', Q (.int n t) { s₁ with toks := t' }) E s) : wpAny (model prog w) A (call (.builtin "len") [.ref x]) Q E s := by
  refine Calls.call_function_entry kind_len plain_len entry_len (args_len1 _) ?_
  unfold Builtin.«len»
  refine wpAny_bind (m := oneArg "len" _) (wpAny_pure ?_)
  refine wpAny_bind (m := callSpecial? (.ref x) (PySem.Str.ofString "__len__")) (special_fn X I hs (beq_iff_eq.mp hf) (wpAny_mono h (fun r s' hr => ?_) fun _ _ y => y))
  obtain ⟨n, u, rfl, hn, hq⟩ := hr
  refine wpAny_bind (wpAny_holding (wpAny_pure ?_))
  refine wpAny_bind (wpAny_letGo ?_)
  show wpAny _ _ (if ((n : Nat) : Int) < 0 then _ else _) _ _ _
  rw [if_neg (by omega)]
  show wpAny _ _ (if ((n : Nat) : Int) ≥ 2 ^ 63 then _ else _) _ _ _
  rw [if_neg (by omega)]
  exact wpAny_bind (wpAny_mkInt (wpAny_pure ⟨_, rfl, hq _ _⟩))
end
end PySem.W
namespace NG
open PySem PySem.Spec PyProof.Rows L2 He
section
variable {X : Cx} {n : Nat} {C f : Addr} {fd : FuncData} {ps : List Str} {sp : Sp}
/-- len(x), x's class has its own __len__ -/
theorem call_lenO (F : FnOk X.prog X.w X.K X.mg X.base CX0 n f fd ps sp) (hr : Room (n + 1) X.A) (hs : PySem.W.findIn X.K (.ref C) "__len__" = some (some (.ref f))) (hf : PySem.W.isFn X.K (.ref f) = true) (hb : Binds X.K fd ps []) :
    CallR X (.builtin "len") (fun xs H Q => ∃ a dx fs, xs = [.ref a] ∧ H a = some (.ins C dx fs) ∧ sp [.ref a] H (fun v H' => ∃ k : Nat, v = .int k ∧ k < 2 ^ 63 ∧ Q (.int k) H') NoX) := by
  intro pins s σ H xs us Q I r h
  obtain ⟨a, dx, fs, rfl, ha, q⟩ := h
  obtain ⟨u, rfl, ru⟩ := vals1 r
  obtain rfl : u = Value.ref a := ru
  obtain ⟨mA, J, _⟩ := ins_get I.hok ha
  obtain ⟨od, J, _⟩ := J.look
  refine PySem.W.ng_len I.kIn J hs hf ?_
  refine run_own (A := X.A.in1) (vs := [.ref a]) F hr.in1 rfl hb I (.cons rfl .nil) q fun v H' u s' rv I' z => ?_
  obtain ⟨k, rfl, hk, z⟩ := z
  obtain ⟨t, rfl⟩ := rv
  exact ⟨k, t, rfl, hk, fun t t' => ⟨.int k, H', I'.tok _, ⟨_, rfl⟩, z⟩⟩
end
end NG

set_option Elab.async false
set_option linter.all false
set_option maxRecDepth 100000
set_option maxHeartbeats 400000
/-! tuple * n, n any small natural number -/
namespace L2
open PySem PySem.Spec PyProof.Rows
theorem tuple_mul1 (l : Addr) (items : Array Value) (n : Nat) (dd : Option Addr) (sl : Array (Option Value)) (u : Tok) :
    Meets (Builtin.«tuple.__mul__» ⟨[.ref l, .int 1 u], []⟩) (fun _ R s => s.heap.get? l = some { cls := .type "tuple", dict := dd, data := .seq items n, slots := sl } ∧ ∀ t, R (.ok (.ret (Value.ref l))) { s with toks := t }) :=
  .of_wp fun prog w A R s h => by
    obtain ⟨hp, g, d, tk, os⟩ := s
    obtain ⟨hl, h⟩ := h
    have f1 := AutoSeq1.idx_int
    have c1 : (items.isEmpty || (1 : Int) == 1) = true := by simp
    wp_walk using wpAny_loadPart' hl
    repeat (first
      | (refine wpAny_ite_false (by decide) ?_; wp_walk using wpAny_loadPart' hl)
      | (refine wpAny_ite_true (by simp) ?_; wp_walk using wpAny_loadPart' hl))
    exact ⟨_, rfl, h _⟩
theorem tuple_mul0 (l : Addr) (items : Array Value) (n : Nat) (dd : Option Addr) (sl : Array (Option Value)) (u : Tok) (c1 : (items.isEmpty || (0 : Int) == 1) = false) :
    Meets (Builtin.«tuple.__mul__» ⟨[.ref l, .int 0 u], []⟩) (fun _ R s => s.heap.get? l = some { cls := .type "tuple", dict := dd, data := .seq items n, slots := sl } ∧
      ∀ t, R (.ok (.ret (Value.ref s.heap.objs.size))) { s with heap := s.heap.push { cls := Value.type "tuple", data := Data.seq #[] }, toks := t }) :=
  .of_wp fun prog w A R s h => by
    obtain ⟨hp, g, d, tk, os⟩ := s
    obtain ⟨hl, h⟩ := h
    have f1 := AutoSeq1.idx_int
    wp_walk using wpAny_loadPart' hl
    repeat (first
      | (refine wpAny_ite_false (by decide) ?_; wp_walk using wpAny_loadPart' hl)
      | (refine wpAny_ite_false (by rw [c1]; exact Bool.false_ne_true) ?_; wp_walk using wpAny_loadPart' hl)
      | (refine wpAny_ite_false (decide_eq_false (by rw [c1]; exact Bool.false_ne_true)) ?_; wp_walk using wpAny_loadPart' hl)
      | (refine wpAny_ite_true (by simp) ?_; wp_walk using wpAny_loadPart' hl))
    exact ⟨_, rfl, h _⟩
end L2
namespace NG
open PySem PySem.Spec PyProof.Rows L2 He
def rRepN (K : PySem.W.Frag) : R2 := fun x y H Q => ∃ (l : Addr) (n : Nat) (xs : List V), x = .ref l ∧ y = .int n ∧ H l = some (.tup xs) ∧ xs ≠ [] ∧ n ≤ 1000 ∧ xs.length ≤ 1000 ∧ ∀ p H', Same H H' → H' p = some (.tup (List.replicate n xs).flatten) → Q (.ref p) H'
theorem op_repN {X : Cx} : OpR X (binaryOp .Mult) (rRepN X.K) := by
  intro pins s σ H x y v u Q I rx ry h
  obtain ⟨l, n, xs, rfl, rfl, hE, hne, hn, hz, q⟩ := h
  have hT : SqT X.K H l xs := SqT.of hE
  by_cases h2 : 2 ≤ n
  · refine op_repT pins s σ H _ _ v u Q I rx ry ⟨l, n, xs, rfl, rfl, hT, hne, by omega, by omega, hz, fun p hp => ?_⟩
    exact q p _ (same_upd hp) upd_same
  · cases rx
    obtain ⟨t, rfl⟩ := ry
    obtain ⟨its, r, ⟨⟨cls, dd, data, sl⟩, ho, hc, m, hd⟩, hs⟩ := I.tuple hT
    simp only at hc hd
    subst hc hd
    have hle : its.length = xs.length := r.length.symm
    have hn0 : its ≠ [] := fun e => hne (by
      rw [e] at hle
      exact List.eq_nil_of_length_eq_zero hle.symm)
    have hi : its.toArray.isEmpty = false := by
      cases its with
      | nil => exact absurd rfl hn0
      | cons a b => rfl
    have hcase : n = 0 ∨ n = 1 := by omega
    rcases hcase with rfl | rfl
    · refine wpAny_binaryOp_repeat_ref (T := "tuple") (U := "int") (by decide) ⟨_, ho, rfl⟩ (fun s' => typeIs_int s' 0 t) noFill_tuple_mul PySem.F.fills_int_mul PySem.F.slot_int_rmul repeat_tuple PySem.F.slot_int_index.lookup
        (call_meets PySem.F.slot_int_rmul (typeIs_int s 0 t) PySem.F.entry_int_rmul (PySem.F.args_int_rmul_2 _ _) (int_rmul_tuple 0 t l its.toArray m dd sl)
          ⟨ho, rfl, ⟨_, ho, rfl⟩, call_meets PySem.F.slot_tuple_mul ⟨_, ho, rfl⟩ PySem.F.entry_tuple_mul (PySem.F.args_tuple_mul_2 _ _) (tuple_mul0 l its.toArray m dd sl t (by rw [hi]; rfl)) ⟨ho, fun t' => ?_⟩⟩)
      refine ⟨.ref s.heap.objs.size, upd H s.heap.objs.size (.tup []), I.laid (t' := t') (o := .tup []) (fun b ob q => Heap.get?_push_of_some _ q) (Nat.le_refl _) ?_, rfl, q _ _ (same_upd (I.hok.fresh (Nat.le_refl _))) upd_same⟩
      exact ⟨Nat.zero_le _, [], .nil, IsTup.new _ _⟩
    · refine wpAny_binaryOp_repeat_ref (T := "tuple") (U := "int") (by decide) ⟨_, ho, rfl⟩ (fun s' => typeIs_int s' 1 t) noFill_tuple_mul PySem.F.fills_int_mul PySem.F.slot_int_rmul repeat_tuple PySem.F.slot_int_index.lookup
        (call_meets PySem.F.slot_int_rmul (typeIs_int s 1 t) PySem.F.entry_int_rmul (PySem.F.args_int_rmul_2 _ _) (int_rmul_tuple 1 t l its.toArray m dd sl)
          ⟨ho, rfl, ⟨_, ho, rfl⟩, call_meets PySem.F.slot_tuple_mul ⟨_, ho, rfl⟩ PySem.F.entry_tuple_mul (PySem.F.args_tuple_mul_2 _ _) (tuple_mul1 l its.toArray m dd sl t) ⟨ho, fun t' => ?_⟩⟩)
      exact ⟨.ref l, H, I.tok _, rfl, q _ _ (Same.refl _) (by simpa using hE)⟩
end NG

set_option Elab.async false
set_option linter.all false
set_option maxRecDepth 100000
set_option maxHeartbeats 400000
/-! Kept: __init__, properties -/
namespace NG
open PySem PySem.Spec PyProof.Rows L2 He
variable {P : Program} {w : World} {K : Fg} {mg : Str → Option Value} {base : Heap}
def kfs (s : Addr) (nm : Str) (st : Addr) : List (Str × V) := putF "own_state" (.ref st) (putF "own_seed" (.str nm) (putF "own_sketch" (.ref s) []))
theorem kfs_state (s nm st) : (kfs s nm st).lookup ("own_state" : Str) = some (.ref st) := by unfold kfs; rw [lookup_putF, if_pos rfl]
theorem kfs_seed (s nm st) : (kfs s nm st).lookup ("own_seed" : Str) = some (.str nm) := by unfold kfs; rw [lookup_putF, if_neg (by decide), lookup_putF, if_pos rfl]
theorem kfs_sketch (s nm st) : (kfs s nm st).lookup ("own_sketch" : Str) = some (.ref s) := by unfold kfs; rw [lookup_putF, if_neg (by decide), lookup_putF, if_neg (by decide), lookup_putF, if_pos rfl]
theorem kfs_no {s nm st} {m : Str} (h1 : ¬ m = "own_state") (h2 : ¬ m = "own_seed") (h3 : ¬ m = "own_sketch") : (kfs s nm st).lookup m = none := by
  unfold kfs; rw [lookup_putF, if_neg h1, lookup_putF, if_neg h2, lookup_putF, if_neg h3]; rfl
theorem kfs_put (s nm st st') : putF "own_state" (.ref st') (kfs s nm st) = kfs s nm st' := by
  have n1 : ¬ (("own_sketch" : Str) = "own_seed") := by decide
  have n2 : ¬ (("own_sketch" : Str) = "own_state") := by decide
  have n3 : ¬ (("own_seed" : Str) = "own_state") := by decide
  simp only [kfs, putF, if_neg n1, if_neg n2, if_neg n3, if_true]
theorem kfs_len (s nm st) : (kfs s nm st).length < 1000 := by
  unfold kfs
  have h1 := length_putF "own_state" (.ref st) (putF "own_seed" (.str nm) (putF "own_sketch" (.ref s) []))
  have h2 := length_putF "own_seed" (.str nm) (putF "own_sketch" (.ref s) [])
  have h3 := length_putF "own_sketch" (.ref s) []
  simp only [List.length_nil] at h3
  omega
/-- a kept note: its sketch, seed, shown numbers, rule -/
def KpA (K : Fg) (H : Hp) (a s : Addr) (nm : Str) (ns : List Int) (ru : V) : Prop :=
  ∃ dx st sh, H a = some (.ins (ga K "Kept") dx (kfs s nm st)) ∧ H st = some (.tup [.ref sh, ru]) ∧ H sh = some (.tup (ns.map V.int))
theorem KpA.mono {H H' : Hp} {a s : Addr} {nm : Str} {ns : List Int} {ru : V} (e : Same H H') (h : KpA K H a s nm ns ru) : KpA K H' a s nm ns ru :=
  let ⟨dx, st, sh, h1, h2, h3⟩ := h; ⟨dx, st, sh, e _ _ h1, e _ _ h2, e _ _ h3⟩
abbrev nKInit : List Str := ["self", "sketch", "seed", "many"]
theorem sc_KInit : FnScope nKInit ["self", "sketch", "seed"] (defScope m_Kept_init) := ⟨rfl, rfl, rfl, by decide +kernel, rfl, by decide +kernel, by decide +kernel⟩
def spKInit (K : Fg) : Sp := fun vs H Q _ => ∃ (x dx s : Addr) (sk : List SkE) (m : SkE), vs = [.ref x, .ref s, .str m.1] ∧ SkA K H s sk ∧ (sk.map (·.1)).Nodup ∧ m ∈ sk ∧ keyS m.1 = true ∧ m.2.2.length ≤ 100 ∧ H x = some (.ins (ga K "Kept") dx []) ∧
  ∀ H', But x H H' → KpA K H' x s m.1 (List.replicate m.2.2.length 0) .non → Q .non H'
theorem hasC_Kept (e : Ev K mg) : HasC P w K mg base 4 "Kept" ["self", "sketch", "seed"] [] (spKInit K) := by
  obtain ⟨fd, F⟩ := e.F_m_Kept_init
  obtain ⟨d1, M1, G1, b1⟩ := hasM_SNote (P := P) (w := w) (base := base) e
  obtain ⟨d2, M2, G2, b2⟩ := hasM_NLen (P := P) (w := w) (base := base) e
  refine ⟨fd, [], e.mk_Kept, e.g_Kept, ?_, .nil, F.bindsN fun _ _ _ _ _ _ us hl => match us, hl with | [_, _, _], _ => rfl⟩
  refine F.okD sc_KInit (fun vs H Q E h => ?_) (fun cdv A outer s H vs Q E hr h => ?_)
  · obtain ⟨x, dx, s, sk, m, rfl, _⟩ := h; rfl
  · obtain ⟨x, dx, sa, sk, m, rfl, hsk, hn, hm, hkey, hlm, hx, q⟩ := h
    have hr2 := hr.mono (show 2 ≤ 3 by decide)
    refine ⟨_, pss_cons (ps_set (i := 3) sc_KInit.nd rfl (Or.inl rfl) (pe_callB (call_lenO G2 hr2 M2.at_ M2.fn b2) rfl e.b_len boot_len (pa_cons (pe_meth (pv 1) e.cl_Sketch M1 G1 hr b1 .nil pass0 (pa_cons (pv 2) pa_nil)) pa_nil)))
      (pss_cons (ps_fld (pv 0) (pv 1) rfl)
      (pss_cons (ps_fld (pv 0) (pv 2) rfl)
      (pss_one (ps_fld (pv 0) (pe_tup (pa_cons (pe_op op_repN (pe_tup (pa_cons pe_int pa_nil)) (pv 3)) (pa_cons pe_non pa_nil))) rfl)))), ?_⟩
    obtain ⟨dy, d, kvs, ha, _⟩ := id hsk
    refine ⟨_, rfl, sa, dy, _, rfl, ha, f1_no (by decide), _, rfl, .ref sa, sk, m, rfl, ⟨sa, rfl, hsk⟩, hn, hm, hkey, fun u H1 s1 hu => ?_⟩
    obtain ⟨b, rfl, dz, l, hb, _⟩ := id hu
    refine ⟨b, dz, _, rfl, hb, .ref b, m.2.2, rfl, hu, m.2.2.length, rfl, by omega, ?_⟩
    refine ⟨_, rfl, _, rfl, x, _, dx, _, rfl, s1 _ _ hx, e.cl_Kept, e.n_Kept_own_sketch, (by decide), ?_⟩
    refine ⟨_, rfl, _, rfl, x, _, dx, _, rfl, upd_same, e.cl_Kept, e.n_Kept_own_seed, ?_, ?_⟩
    · exact Nat.lt_of_le_of_lt (length_putF _ _ _) (by decide)
    rw [upd_upd]
    refine ⟨(by show 1 ≤ sizeLine; decide), fun z hz => ?_⟩
    have s2 := same_upd (o := .tup [.int 0]) hz
    refine ⟨_, rfl, z, m.2.2.length, [.int 0], rfl, rfl, upd_same, by simp, by omega, by decide, fun sh H2 s3 hsh => ?_⟩
    refine ⟨(by show 2 ≤ sizeLine; decide), fun st hst => ?_⟩
    have s4 := same_upd (o := .tup [.ref sh, .non]) hst
    have s24 := (s2.trans s3).trans s4
    have hxx := s24 _ _ (upd_same (H := H1) (a := x) (o := .ins (ga K "Kept") dx (putF "own_seed" (.str m.1) (putF "own_sketch" (.ref sa) []))))
    have hxs : st ≠ x := fun y => by subst y; rw [upd_same] at hxx; exact nomatch hxx
    refine ⟨_, rfl, x, _, dx, _, rfl, hxx, e.cl_Kept, e.n_Kept_own_state, ?_, ?_⟩
    · have h2 := length_putF "own_seed" (.str m.1) (putF "own_sketch" (.ref sa) [])
      have h3 := length_putF "own_sketch" (.ref sa) []
      simp only [List.length_nil] at h3
      omega
    refine q _ ?_ ⟨dx, st, sh, upd_same, by rw [upd_ne hxs, upd_same], ?_⟩
    · intro c o hc ec
      rw [upd_ne hc]
      exact s24 _ _ (by rw [upd_ne hc]; exact s1 _ _ ec)
    · have e0 : (List.replicate m.2.2.length [V.int 0]).flatten = (List.replicate m.2.2.length (0 : Int)).map V.int := by
        rw [List.map_replicate]
        induction m.2.2.length with
        | zero => rfl
        | succ k ih => rw [List.replicate_succ, List.flatten_cons, ih, List.replicate_succ]; rfl
      rw [e0] at hsh
      have h := s4 _ _ hsh
      rw [upd_ne (fun y => by subst y; rw [h] at hxx; exact nomatch hxx)]
      exact h
end NG

set_option Elab.async false
set_option linter.all false
set_option maxRecDepth 100000
set_option maxHeartbeats 400000
/-! Kept: sketch, seed, shown, rule, copy -/
namespace NG
open PySem PySem.Spec PyProof.Rows L2 He
variable {P : Program} {w : World} {K : Fg} {mg : Str → Option Value} {base : Heap}
/-- a property of an own class -/
def HasP (P : Program) (w : World) (K : Fg) (mg : Str → Option Value) (base : Heap) (k : Nat) (C f : Str) (sp : Sp) : Prop :=
  ∃ fd, PropOf K (ga K C) f (ma K (ga K C) f) (propG K (ga K C) f) ∧ FnOk P w K mg base CX0 k (propG K (ga K C) f) fd ["self"] sp ∧ Binds K fd ["self"] []
theorem sc_KSketch : FnScope ["self"] ["self"] (defScope m_Kept_sketch) := ⟨rfl, rfl, rfl, by decide +kernel, rfl, by decide +kernel, by decide +kernel⟩
theorem hasP_sketch (e : Ev K mg) : HasP P w K mg base 1 "Kept" "sketch" (fun vs H Q _ => ∃ a s nm ns ru, vs = [.ref a] ∧ KpA K H a s nm ns ru ∧ Q (.ref s) H) := by
  obtain ⟨fd, F⟩ := e.F_m_Kept_sketch
  refine ⟨fd, e.p_Kept_sketch, ?_, F.bindsN fun _ _ _ _ _ _ us hl => match us, hl with | [_], _ => rfl⟩
  refine F.okD sc_KSketch (fun vs H Q E h => ?_) (fun cdv A outer s H vs Q E hr h => ?_)
  · obtain ⟨a, s, nm, ns, ru, rfl, _⟩ := h; rfl
  · obtain ⟨a, sa, nm, ns, ru, rfl, ⟨dx, st, sh, h1, h2, h3⟩, q⟩ := h
    refine ⟨_, pss_one (ps_ret (pe_fld (pv 0) rfl)), ?_⟩
    exact ⟨_, rfl, a, _, dx, _, _, rfl, h1, e.cl_Kept, e.n_Kept_own_sketch, kfs_sketch _ _ _, q⟩
theorem sc_KSeed : FnScope ["self"] ["self"] (defScope m_Kept_seed) := ⟨rfl, rfl, rfl, by decide +kernel, rfl, by decide +kernel, by decide +kernel⟩
theorem hasP_seed (e : Ev K mg) : HasP P w K mg base 1 "Kept" "seed" (fun vs H Q _ => ∃ a s nm ns ru, vs = [.ref a] ∧ KpA K H a s nm ns ru ∧ Q (.str nm) H) := by
  obtain ⟨fd, F⟩ := e.F_m_Kept_seed
  refine ⟨fd, e.p_Kept_seed, ?_, F.bindsN fun _ _ _ _ _ _ us hl => match us, hl with | [_], _ => rfl⟩
  refine F.okD sc_KSeed (fun vs H Q E h => ?_) (fun cdv A outer s H vs Q E hr h => ?_)
  · obtain ⟨a, s, nm, ns, ru, rfl, _⟩ := h; rfl
  · obtain ⟨a, sa, nm, ns, ru, rfl, ⟨dx, st, sh, h1, h2, h3⟩, q⟩ := h
    refine ⟨_, pss_one (ps_ret (pe_fld (pv 0) rfl)), ?_⟩
    exact ⟨_, rfl, a, _, dx, _, _, rfl, h1, e.cl_Kept, e.n_Kept_own_seed, kfs_seed _ _ _, q⟩
theorem sc_KShown : FnScope ["self"] ["self"] (defScope m_Kept_shown) := ⟨rfl, rfl, rfl, by decide +kernel, rfl, by decide +kernel, by decide +kernel⟩
theorem hasP_shown (e : Ev K mg) : HasP P w K mg base 1 "Kept" "shown" (fun vs H Q _ => ∃ a s nm ns ru, vs = [.ref a] ∧ KpA K H a s nm ns ru ∧ ∀ T, H T = some (.tup (ns.map V.int)) → Q (.ref T) H) := by
  obtain ⟨fd, F⟩ := e.F_m_Kept_shown
  refine ⟨fd, e.p_Kept_shown, ?_, F.bindsN fun _ _ _ _ _ _ us hl => match us, hl with | [_], _ => rfl⟩
  refine F.okD sc_KShown (fun vs H Q E h => ?_) (fun cdv A outer s H vs Q E hr h => ?_)
  · obtain ⟨a, s, nm, ns, ru, rfl, _⟩ := h; rfl
  · obtain ⟨a, sa, nm, ns, ru, rfl, ⟨dx, st, sh, h1, h2, h3⟩, q⟩ := h
    refine ⟨_, pss_one (ps_ret (pe_ix ix_tup (pe_fld (pv 0) rfl) pe_int (fun _ _ => rfl))), ?_⟩
    exact ⟨_, rfl, a, _, dx, _, _, rfl, h1, e.cl_Kept, e.n_Kept_own_state, kfs_state _ _ _, st, _, 0, _, rfl, rfl, SqT.of h2, rfl, q sh h3⟩
theorem sc_KRule : FnScope ["self"] ["self"] (defScope m_Kept_rule) := ⟨rfl, rfl, rfl, by decide +kernel, rfl, by decide +kernel, by decide +kernel⟩
theorem hasP_rule (e : Ev K mg) : HasP P w K mg base 1 "Kept" "rule" (fun vs H Q _ => ∃ a s nm ns ru, vs = [.ref a] ∧ KpA K H a s nm ns ru ∧ Q ru H) := by
  obtain ⟨fd, F⟩ := e.F_m_Kept_rule
  refine ⟨fd, e.p_Kept_rule, ?_, F.bindsN fun _ _ _ _ _ _ us hl => match us, hl with | [_], _ => rfl⟩
  refine F.okD sc_KRule (fun vs H Q E h => ?_) (fun cdv A outer s H vs Q E hr h => ?_)
  · obtain ⟨a, s, nm, ns, ru, rfl, _⟩ := h; rfl
  · obtain ⟨a, sa, nm, ns, ru, rfl, ⟨dx, st, sh, h1, h2, h3⟩, q⟩ := h
    refine ⟨_, pss_one (ps_ret (pe_ix ix_tup (pe_fld (pv 0) rfl) pe_int (fun _ _ => rfl))), ?_⟩
    exact ⟨_, rfl, a, _, dx, _, _, rfl, h1, e.cl_Kept, e.n_Kept_own_state, kfs_state _ _ _, st, _, 1, _, rfl, rfl, SqT.of h2, rfl, q⟩
end NG

set_option Elab.async false
set_option linter.all false
set_option maxRecDepth 100000
set_option maxHeartbeats 400000
/-! xs.extend(t), t a tuple; Question: degree, used_keys -/
namespace NG
open PySem PySem.Spec PyProof.Rows L2 He
section
variable {X : Cx}
def rExtT (K : PySem.W.Frag) : V → List V → Hp → VK → Prop := fun x vs H Q => ∃ l b xs zs, x = .ref l ∧ vs = [.ref b] ∧ H l = some (.lst xs) ∧ SqT K H b zs ∧ xs.length + zs.length ≤ sizeLine ∧ Q .non (upd H l (.lst (xs ++ zs)))
theorem mt_extendT : MtM X "list.extend" (rExtT X.K) := by
  intro pins s σ H x vs v us Q I rx rv h
  obtain ⟨l, b, xs, zs, rfl, rfl, hH, hB, hz, q⟩ := h
  cases rx
  obtain ⟨u, rfl, ru⟩ := rv.one
  cases ru
  obtain ⟨z, its, n, r, hl, e⟩ := I.lstM hH
  obtain ⟨its2, r2, p2, _⟩ := I.tuple hB
  obtain ⟨o, ho, hc, n2, hd⟩ := p2
  have l1 := r.length
  have l2 := r2.length
  have hsz : its.toArray.size + its2.toArray.size ≤ sizeLine := by rw [List.size_toArray, List.size_toArray]; omega
  have hlong : ¬ (!its.toArray.isEmpty && Builtin.List.listTooLong (its.toArray.size + its2.toArray.size)) = true := by
    rw [notLongL hsz, Bool.and_false]
    exact Bool.false_ne_true
  refine wpAny_call_entry F.slot_list_extend ⟨_, e, rfl⟩ F.entry_list_extend ?_ (F.args_list_extend_2 _ _)
  show wpAny _ _ (Builtin.List.listExtendWith (.ref l) (.ref b) .none) _ _ s
  unfold Builtin.List.listExtendWith
  refine wpAny_bind (wpAny_typeOf (T := "tuple") ⟨o, ho, hc⟩ ?_)
  have h1 : (Builtin.List.listSameRef (.ref l) (.ref b) || Value.type "tuple" == Value.type "list" || Value.type "tuple" == Value.type "tuple") = true := by simp
  rw [if_pos h1]
  refine wpAny_bind ?_
  unfold Builtin.List.listItems
  refine wpAny_bind (wpAny_seqItems ho hd (wpAny_pure ?_))
  refine wpAny_bind ?_
  refine wpAny_bind (wpAny_seqItems e rfl (wpAny_pure ?_))
  rw [if_neg hlong]
  show wpAny _ _ (updateSeq l (· ++ its2.toArray) >>= fun _ => ret .none) _ _ s
  refine wpAny_bind (wpAny_updateSeq e rfl ?_ (hz := by rw [List.size_toArray]; omega) (_hz' := by rw [Array.size_append]; omega))
  refine wpAny_pure ⟨_, rfl, ?_⟩
  refine ⟨.non, _, I.lset (t' := s.toks) (its' := its ++ its2) hH e (by simp) (r.append r2) ?_, rfl, q⟩
  rw [List.length_append]
  omega
end
variable {P : Program} {w : World} {K : Fg} {mg : Str → Option Value} {base : Heap}
def rLenS (K : Fg) : List V → Hp → VK → Prop := fun xs H Q => ∃ p ys, xs = [V.ref p] ∧ (SqL K H p ys ∨ SqT K H p ys) ∧ Q (V.int ys.length) H
theorem sc_QDeg : FnScope ["self", "product"] ["self"] (defScope m_Question_degree) := ⟨rfl, rfl, rfl, by decide +kernel, rfl, by decide +kernel, by decide +kernel⟩
theorem hasP_degree (e : Ev K mg) : HasP P w K mg base 1 "Question" "degree" (fun vs H Q _ => ∃ a r, vs = [.ref a] ∧ QuA K H a r ∧ ∀ H', Same H H' → Q (.int 0) H') := by
  obtain ⟨fd, F⟩ := e.F_m_Question_degree
  refine ⟨fd, e.p_Question_degree, ?_, F.bindsN fun _ _ _ _ _ _ us hl => match us, hl with | [_], _ => rfl⟩
  refine F.okD sc_QDeg (fun vs H Q E h => ?_) (fun cdv A outer s H vs Q E hr h => ?_)
  · obtain ⟨a, r, rfl, _⟩ := h; rfl
  · obtain ⟨a, r, rfl, ⟨dx, d, ha, u, hd, hu'⟩, q⟩ := h
    refine ⟨_, pss_one (ps_ret (pe_callB (cr_max rfl) rfl e.b_max boot_max (pa_cons (pe_op op_cat (pe_lock (pe_lc (own := [("product", 1)]) (g := gName 1) (tt := tYes) rfl sc_QDeg.nd (pi_keys (pe_fld (pv 0) rfl)) (blkOk_by (N := ["self", "product"]) (sc := defScope m_Question_degree) (by decide +kernel))
        (fun _ _ _ _ _ => pg_name (i := 1) sc_QDeg.nd rfl (Or.inl rfl)) (fun _ _ _ _ _ => pts_nil) (fun _ _ _ _ _ => pe_callB (show CallR _ (.builtin "len") (rLenS K) from call_len_seq) rfl e.b_len boot_len (pa_cons (pv 1) pa_nil)))) (pe_lst (pa_cons (pe_un un_neg pe_int) pa_nil))) pa_nil))), ?_⟩
    refine ⟨d, _, hd, trivial, fun od => ?_⟩
    have had : a ≠ d := fun z => by subst z; rw [hd] at ha; exact nomatch ha
    refine ⟨_, rfl, a, _, dx, _, _, rfl, by rw [upd_ne had]; exact ha, e.cl_Question, e.n_Question_own_weights, f1_look _ _, d, od, rfl, .inr ⟨_, upd_same, fun D hD => ?_⟩⟩
    have hDd : D ≠ d := fun z => by rw [z, upd_same] at hD; exact nomatch hD
    refine lc_src (src_keysT (d := d) (o := od) (kvs := [([], u)])) isI (fun k => (k.length : Int)) (fun _ => true) upd_same hD (by show 1 < sizeLine; decide) ?_ ?_
    · rintro j k y H3 acc Nx hp s3 hd3 ⟨b, rfl, hb⟩ hD3 hl3 _ _ kT
      refine ⟨rfl, tYes_of ?_⟩
      refine ⟨_, rfl, b, _, rfl, .inr (SqT.of hb), ?_⟩
      rw [List.length_map]
      exact ⟨acc, hD3, hl3, kT rfl _ _ (Same.refl _) fun _ _ => rfl⟩
    · intro H3 ys s3 hy he
      have ey := (he H3 fun _ _ _ z => z).eq_map V.int (fun _ _ z => z)
      rw [filt] at ey
      have ey : ys = [.int 0] := by simpa using ey
      subst ey
      have sU := unlock_same hd s3
      have hD4 : upd H3 d (.dT [([], u)]) D = some (.lst [.int 0]) := by rw [upd_ne hDd]; exact hy
      refine ⟨s3 _ _ upd_same, ?_⟩
      generalize upd H3 d (.dT [([], u)]) = H4 at sU hD4 ⊢
      refine ⟨_, rfl, (by show 1 ≤ sizeLine; decide), fun p hp => ?_⟩
      have s5 := same_upd (o := .lst [.int (-1)]) hp
      refine ⟨D, p, [.int 0], [.int (-1)], rfl, rfl, s5 _ _ hD4, upd_same, (by show 2 ≤ sizeLine; decide), fun p2 hp2 => ?_⟩
      have s6 := same_upd (o := .lst [.int 0, .int (-1)]) hp2
      refine ⟨p2, [0, -1], rfl, SqL.of upd_same, by decide, fun m hm hmx => ?_⟩
      have em : m = 0 := by
        have h1 := hmx 0 (by simp)
        simp at hm
        omega
      subst em
      exact q _ (sU.trans (s5.trans s6))
abbrev nQUsed : List Str := ["self", "found", "product"]
theorem sc_QUsed : FnScope nQUsed ["self"] (defScope m_Question_used_keys) := ⟨rfl, rfl, rfl, by decide +kernel, rfl, by decide +kernel, by decide +kernel⟩
def spQUsed (K : Fg) : Sp := fun vs H Q _ => ∃ a r, vs = [.ref a] ∧ QuA K H a r ∧ ∀ p H', Same H H' → H' p = some (.lst []) → Q (.ref p) H'
theorem hasM_QUsed (e : Ev K mg) : HasM P w K mg base 1 "Question" "used_keys" ["self"] (spQUsed K) := by
  obtain ⟨fd, F⟩ := e.F_m_Question_used_keys
  refine ⟨fd, e.me_Question_used_keys, ?_, F.bindsN fun _ _ _ _ _ _ us hl => match us, hl with | [_], _ => rfl⟩
  refine F.okD sc_QUsed (fun vs H Q E h => ?_) (fun cdv A outer s H vs Q E hr h => ?_)
  · obtain ⟨a, r, rfl, _⟩ := h; rfl
  · obtain ⟨a, r, rfl, ⟨dx, d, ha, u, hd, hu'⟩, q⟩ := h
    refine ⟨_, pss_cons (ps_set (i := 1) sc_QUsed.nd rfl (Or.inl rfl) (pe_lst pa_nil))
      (pss_cons (ps_lock (ps_for (g := gName 2) PassesOwn.never rfl (pi_keys (pe_fld (pv 0) rfl)) (pg_name (i := 2) sc_QUsed.nd rfl (Or.inl rfl))
        (pss_one (ps_expr (pe_bm PySem.F.plainAttrs_list PySem.F.slot_list_extend PySem.F.type_list_extend mt_extendT (pv 1) (pa_cons (pv 2) pa_nil))))))
      (pss_one (ps_ret (pe_callB (cr_sortedT rfl hr.units) rfl e.b_sorted boot_sorted (pa_cons (pe_callTy (cr_setT rfl) rfl e.b_set boot_set (pa_cons (pv 1) pa_nil)) pa_nil))))), ?_⟩
    refine ⟨(by show 0 ≤ sizeLine; decide), fun l hl => ?_⟩
    have s1 := same_upd (o := .lst []) hl
    have had : a ≠ d := fun z => by subst z; rw [hd] at ha; exact nomatch ha
    have hld : l ≠ d := fun z => by subst z; rw [hd] at hl; exact nomatch hl
    refine ⟨d, _, s1 _ _ hd, trivial, fun od => ?_⟩
    refine ⟨_, rfl, a, _, dx, _, _, rfl, by rw [upd_ne had]; exact s1 _ _ ha, e.cl_Question, e.n_Question_own_weights, f1_look _ _, d, od, rfl, .inr ⟨_, upd_same, ?_⟩⟩
    refine for_src (src_keysT (d := d) (o := od) (kvs := [([], u)])) (fun i σ H2 => ∃ x2, σ = [some (.ref a), some (.ref l), x2] ∧ H2 d = some (.frz od (.dT [([], u)])) ∧ H2 l = some (.lst []) ∧ Same (upd (upd H l (.lst [])) d (.frz od (.dT [([], u)]))) H2)
      ⟨none, rfl, upd_same, by rw [upd_ne hld, upd_same], Same.refl _⟩ (fun i σ H2 ⟨_, _, h, _⟩ => h) ?_ ?_
    · rintro i k y σ H2 H3 hp hi ⟨x2, rfl, hd2, hl2, s2⟩ s3 ⟨b, rfl, hb⟩
      have ek : k = [] := by
        have := List.mem_of_getElem? hp
        simp at this; exact this
      subst ek
      refine ⟨_, rfl, .inl ⟨rfl, _, SqL.of (s3 _ _ hl2)⟩, _, rfl, l, b, [], [], rfl, rfl, s3 _ _ hl2, SqT.of hb, (by show 0 ≤ sizeLine; decide), ?_⟩
      have e0 : upd H3 l (.lst ([] ++ [])) = H3 := by
        funext c
        by_cases hc : c = l
        · subst hc; rw [upd_same]; exact (s3 _ _ hl2).symm
        · rw [upd_ne hc]
      rw [e0]
      exact ⟨_, rfl, s3 _ _ hd2, s3 _ _ hl2, s2.trans s3⟩
    · rintro σ H2 ⟨x2, rfl, hd2, hl2, s2⟩
      refine ⟨hd2, ?_⟩
      have sU := unlock_same (s1 _ _ hd) s2
      have hl3 : upd H2 d (.dT [([], u)]) l = some (.lst []) := by rw [upd_ne hld]; exact hl2
      generalize upd H2 d (.dT [([], u)]) = H3 at sU hl3 ⊢
      refine ⟨_, rfl, l, [], rfl, SqL.of hl3, Nat.zero_le _, fun p m hm hp => ?_⟩
      refine ⟨p, [], m, rfl, upd_same, Nat.le_trans hm (Nat.zero_le _), fun ns p2 hn hmem hp2 => ?_⟩
      have en : ns = [] := List.eq_nil_iff_forall_not_mem.mpr fun x hx => nomatch (hmem x).mp hx
      subst en
      exact q p2 _ (s1.trans (sU.trans ((same_upd hp).trans (same_upd hp2)))) upd_same
end NG

set_option Elab.async false
set_option linter.all false
set_option maxRecDepth 100000
set_option maxHeartbeats 400000
/-! term_text, question_text, Question.__str__ -/
namespace NG
open PySem PySem.Spec PyProof.Rows L2 He
variable {P : Program} {w : World} {K : Fg} {mg : Str → Option Value} {base : Heap}
abbrev nTText : List Str := ["top", "bottom", "product", "text", "key"]
theorem sc_TText : FnScope nTText ["top", "bottom", "product"] (defScope f_term_text) := ⟨rfl, rfl, rfl, by decide +kernel, rfl, by decide +kernel, by decide +kernel⟩
def spTText (K : Fg) : Sp := fun vs H Q _ => ∃ (t : Int) (b : Addr), vs = [.int t, .int 1, .ref b] ∧ t.natAbs.log2 < 1920 ∧ SqT K H b [] ∧ ∀ H', Same H H' → Q (.str (toString t)) H'
theorem has_term_text (e : Ev K mg) : Has P w K mg base 1 "term_text" ["top", "bottom", "product"] (spTText K) := by
  obtain ⟨fd, F⟩ := e.F_f_term_text
  refine ⟨_, fd, e.g_term_text, ?_, F.kp, F.bindsN fun _ _ _ _ _ _ us hl => match us, hl with | [_, _, _], _ => rfl⟩
  refine F.okD sc_TText (fun vs H Q E h => ?_) (fun cdv A outer s H vs Q E hr h => ?_)
  · obtain ⟨t, b, rfl, _⟩ := h; rfl
  · obtain ⟨t, b, rfl, ht, hb, q⟩ := h
    refine ⟨_, pss_cons (ps_set (i := 3) sc_TText.nd rfl (Or.inl rfl) (pe_ifExp (pt_cmpR op_eq (pv 1) pe_int (nomark _)) (pe_callTy call_str_int rfl e.b_str boot_str (pa_cons (pv 0) pa_nil)) pe_never))
      (pss_cons (ps_if (PW.pt (pw_and (pt_cmpR (op_neD hr.units) (pv 2) (pe_tup pa_nil) (nomark _)) (pw_and1 (pt_cmpR op_eq (pv 3) pe_str (nomark _))))) (pss_one ps_never) pss_nil)
      (pss_cons (ps_for (g := gName 4) (tb := fun _ _ _ => False) PassesOwn.never rfl (pi_tup (pv 2)) (pg_name (i := 4) sc_TText.nd rfl (Or.inl rfl)) (pss_one ps_never))
      (pss_one (ps_ret (pv 3))))), ?_⟩
    refine ⟨_, rfl, rfl, true, rfl, iteT ?_⟩
    refine ⟨_, rfl, t, rfl, ht, ?_⟩
    refine ⟨_, rfl, (by show 0 ≤ sizeLine; decide), fun T hT => ?_⟩
    have s1 := same_upd (o := .tup []) hT
    refine ⟨.tuple [], .tuple [], .tup (s1.tup hb) .nil, .tup (SqT.of upd_same) .nil, rfl, rfl, false, rfl, iteF ?_⟩
    refine ⟨_, rfl, b, rfl, ⟨_, s1.tup hb⟩, ?_⟩
    refine for_src (g := gName 4) (tb := fun _ _ _ => False) (src_tup (R := isS) (H0 := upd H T (.tup [])) mn_isS .nil) (fun i σ H2 => σ = [some (.int t), some (.int 1), some (.ref b), some (.str (toString t)), none] ∧ Same (upd H T (.tup [])) H2) ⟨rfl, Same.refl _⟩ (fun i σ H2 ⟨_, s2⟩ => ⟨s2, s2.tup (s1.tup hb)⟩) ?_ ?_
    · intro i k y σ H2 H3 hp hi
      simp at hi
    · rintro σ H2 ⟨rfl, s2⟩
      exact ⟨_, rfl, q H2 (s1.trans s2)⟩
abbrev nQText : List Str := ["weights", "text", "product", "weight", "plain"]
theorem sc_QText : FnScope nQText ["weights"] (defScope f_question_text) := ⟨rfl, rfl, rfl, by decide +kernel, rfl, by decide +kernel, by decide +kernel⟩
/-- the text of a whole number above 0 -/
def qTxt (n : Int) : Str := if decide (V.str (toString n) = V.str "") = true then "0" else toString n
def spQText (K : Fg) : Sp := fun vs H Q _ => ∃ (d : Addr) (n : Int), vs = [.ref d] ∧ WtC K H d n ∧ 0 < n ∧ n.natAbs.log2 < 1920 ∧ ∀ H', Same H H' → Q (.str (qTxt n)) H'
theorem has_question_text (e : Ev K mg) : Has P w K mg base 2 "question_text" ["weights"] (spQText K) := by
  obtain ⟨fd, F⟩ := e.F_f_question_text
  refine ⟨_, fd, e.g_question_text, ?_, F.kp, F.bindsN fun _ _ _ _ _ _ us hl => match us, hl with | [_], _ => rfl⟩
  obtain ⟨f1', d1, m1, G1, k1, b1⟩ := has_term_text (P := P) (w := w) (base := base) e
  refine F.okD sc_QText (fun vs H Q E h => ?_) (fun cdv A outer s H vs Q E hr h => ?_)
  · obtain ⟨d, n, rfl, _⟩ := h; rfl
  · obtain ⟨d, n, rfl, hw, hn, hlog, q⟩ := h
    have hu := hu_of hr
    refine ⟨_, pss_cons (ps_set (i := 1) sc_QText.nd rfl (Or.inl rfl) pe_str)
      (pss_cons (ps_for (g := gName 2) PassesOwn.never rfl (pi_list (pe_revL (pe_callTy (call_list_dT rfl) rfl e.b_list boot_list (pa_cons (pv 0) pa_nil)))) (pg_name (i := 2) sc_QText.nd rfl (Or.inl rfl))
        (pss_cons (ps_set (i := 3) sc_QText.nd rfl (Or.inl rfl) (pe_dget hu (pv 0) (pv 2) (fun _ _ => rfl)))
        (pss_cons (ps_set (i := 4) sc_QText.nd rfl (Or.inl rfl) (pe_call G1 hr rfl m1 k1 b1 .nil pass0 (pa_cons (pe_callB call_abs rfl e.b_abs boot_abs (pa_cons (pe_fld (pv 3) rfl) pa_nil)) (pa_cons (pe_fld (pv 3) rfl) (pa_cons (pv 2) pa_nil)))))
        (pss_one (ps_if (pt_cmpR op_eq (pv 1) pe_str (nomark _)) (pss_one (ps_set (i := 1) sc_QText.nd rfl (Or.inl rfl) (pe_ifExp (pt_cmpR op_lt (pe_fld (pv 3) rfl) pe_int (nomark _)) pe_never (pv 4)))) (pss_one ps_never))))))
      (pss_one (ps_ret (pe_ifExp (pt_cmpR op_ne (pv 1) pe_str (nomark _)) (pv 1) pe_str)))), ?_⟩
    obtain ⟨u, hd, hu'⟩ := id hw
    refine ⟨_, rfl, d, _, rfl, .inl hd, fun l bs hl hbs => ?_⟩
    have s1 := same_upd (o := .lst (bs.map V.ref)) hl
    cases hbs with
    | @cons _ b _ _ hb t =>
      cases t
      refine ⟨l, _, rfl, SqL.of upd_same, fun l2 hl2 => ?_⟩
      have s2 := same_upd (o := .lst ([b].map V.ref).reverse) hl2
      have s12 := s1.trans s2
      refine ⟨l2, rfl, ⟨_, SqL.of upd_same⟩, ?_⟩
      refine for_src (src_list (R := isAt b) (H0 := upd (upd H l (.lst ([b].map V.ref))) l2 (.lst ([b].map V.ref).reverse)) (bs := [[]]) (mn_At b) (.cons ⟨rfl, s12 _ _ hb⟩ .nil))
        (fun i σ H2 => ∃ x2 x3 x4, σ = [some (.ref d), some (.str (if i = 0 then "" else toString n)), x2, x3, x4] ∧ Same (upd (upd H l (.lst ([b].map V.ref))) l2 (.lst ([b].map V.ref).reverse)) H2) ⟨none, none, none, rfl, Same.refl _⟩ (fun i σ H2 ⟨_, _, _, _, s3⟩ => ⟨s3, s3.seq (SqL.of upd_same)⟩) ?_ ?_
      · rintro i k y σ H2 H3 hp hi ⟨x2, x3, x4, rfl, s3⟩ s4 ⟨rfl, hb3⟩
        have i0 : i = 0 := by simp at hi; exact hi
        subst i0
        have ek : k = [] := by
          have := List.mem_of_getElem? hp
          simp at this; exact this
        subst ek
        have s03 := s12.trans (s3.trans s4)
        refine ⟨_, rfl, _, rfl, d, u, rfl, DGet.t (s03 _ _ hd) hb3, ?_⟩
        obtain ⟨c, rfl, dc, hc⟩ := mn_Rt _ _ _ _ s03 hu'
        have en : (((n : Int) : Rat)).num = n := rfl
        have ed : (((n : Int) : Rat)).den = 1 := rfl
        rw [en, ed] at hc
        refine ⟨_, rfl, c, _, dc, _, _, rfl, hc, e.cl_Ratio, e.n_Ratio_own_top, rfs_top _ _, _, rfl, ?_⟩
        rw [if_neg (show ¬ n < 0 by omega)]
        refine ⟨_, rfl, c, _, dc, _, _, rfl, hc, e.cl_Ratio, e.n_Ratio_own_bottom, rfs_bot _ _, _, rfl, n, b, rfl, hlog, SqT.of hb3, fun H4 s5 => ?_⟩
        refine ⟨_, rfl, rfl, true, rfl, iteT ?_⟩
        refine ⟨_, rfl, c, _, dc, _, _, rfl, s5 _ _ hc, e.cl_Ratio, e.n_Ratio_own_top, rfs_top _ _, _, _, rfl, rfl, _, rfl, ?_⟩
        rw [decide_eq_false (show ¬ n < 0 by omega)]
        refine iteF ⟨_, rfl, ?_⟩
        exact ⟨_, _, _, rfl, s3.trans (s4.trans s5)⟩
      · rintro σ H2 ⟨x2, x3, x4, rfl, s3⟩
        refine ⟨_, rfl, rfl, _, rfl, ?_⟩
        have q2 := q H2 (s12.trans s3)
        unfold qTxt at q2
        by_cases hc : decide (V.str (toString n) = V.str "") = true
        · rw [if_pos hc] at q2
          have : (!decide (V.str (toString n) = V.str "")) = false := by rw [hc]; rfl
          refine (by rw [show (if ([[]] : List (List Key)).length = 0 then ("" : Str) else toString n) = toString n from rfl, this]; exact iteF q2)
        · have hf : decide (V.str (toString n) = V.str "") = false := by simpa using hc
          rw [if_neg hc] at q2
          have : (!decide (V.str (toString n) = V.str "")) = true := by rw [hf]; rfl
          refine (by rw [show (if ([[]] : List (List Key)).length = 0 then ("" : Str) else toString n) = toString n from rfl, this]; exact iteT ⟨_, rfl, q2⟩)
theorem sc_QStr : FnScope ["self"] ["self"] (defScope m_Question_str) := ⟨rfl, rfl, rfl, by decide +kernel, rfl, by decide +kernel, by decide +kernel⟩
def spQStr (K : Fg) : Sp := fun vs H Q _ => ∃ (a : Addr) (n : Int), vs = [.ref a] ∧ QuA K H a n ∧ 0 < n ∧ n.natAbs.log2 < 1920 ∧ ∀ H', Same H H' → Q (.str (qTxt n)) H'
theorem hasM_QStr (e : Ev K mg) : HasM P w K mg base 3 "Question" "__str__" ["self"] (spQStr K) := by
  obtain ⟨fd, F⟩ := e.F_m_Question_str
  refine ⟨fd, e.me_Question_str, ?_, F.bindsN fun _ _ _ _ _ _ us hl => match us, hl with | [_], _ => rfl⟩
  obtain ⟨f1', d1, m1, G1, k1, b1⟩ := has_question_text (P := P) (w := w) (base := base) e
  refine F.okD sc_QStr (fun vs H Q E h => ?_) (fun cdv A outer s H vs Q E hr h => ?_)
  · obtain ⟨a, n, rfl, _⟩ := h; rfl
  · obtain ⟨a, n, rfl, ⟨dx, d, ha, hw⟩, hn, hlog, q⟩ := h
    refine ⟨_, pss_one (ps_ret (pe_callTy SkE.call_str_str rfl e.b_str boot_str (pa_cons (pe_call G1 hr rfl m1 k1 b1 .nil pass0 (pa_cons (pe_fld (pv 0) rfl) pa_nil)) pa_nil))), ?_⟩
    refine ⟨_, rfl, a, _, dx, _, _, rfl, ha, e.cl_Question, e.n_Question_own_weights, f1_look _ _, d, n, rfl, hw, hn, hlog, fun H1 s1 => ?_⟩
    exact ⟨_, rfl, q H1 s1⟩
end NG

set_option Elab.async false
set_option linter.all false
set_option maxRecDepth 100000
set_option maxHeartbeats 400000
/-! str(x) of an own instance with its own __str__ -/
namespace PySem.W
open PySem PySem.Spec PySem.Calls PyProof.Rows
section
variable {prog : Program} {w : World} {A : Around} {E : Value → Shared → Prop} {s : Shared} {K : Frag} {x C f : Addr} {ox : Obj} {od : Option Obj}
open Builtin Builtin.Str in
theorem ng_strcall {Q : Value → Shared → Prop} (hu : A.in1.in1.units < cLine) (X : K.In s.heap) (I : InstAt s.heap x ox C od) (hs : findIn K (.ref C) "__str__" = some (some (.ref f))) (hf : isFn K (.ref f) = true)
    (h : wpAny (model prog w) A.in1.in1 (call (.ref f) [.ref x]) (StrBack Q) E s) : wpAny (model prog w) A (call (.type "str") [.ref x]) Q E s := by
  refine callType_codes (T := "str") (Bi := Builtin.«object.__init__») (Q₁ := fun r s₁ => ∃ y u, r = .str y u ∧ Q r s₁) PySem.F.called_str (PySem.F.typeCall_str_1 _) PySem.F.entry_object_init ?_ ?_
  · refine codeAny_of_tree ?_
    show wpAny _ A.in1.in1 (do checkBuiltinCall "str.__new__" ⟨[.type "str", .ref x], []⟩; again (.builtin "str.__new__" ⟨[.type "str", .ref x], []⟩)) _ _ s
    refine wpAny_bind (wpAny_of_eq (PySem.F.newCall_str_1 _) (wpAny_pure ⟨plainId_quiet (by decide +kernel) _, codeAny_builtin PySem.F.entry_str_new ?_⟩))
    rw [Around.under_plainId (by decide +kernel) _]
    rw [str_new_tree]
    refine wpAny_bind (wpAny_pure ?_)
    refine wpAny_bind (wpAny_of_eq isSubtype_str_str ?_)
    have key : wpAny (model prog w) A.in1.in1 (PySem.Builtin.Str.strOf (.ref x)) (fun r s₁ => ∃ y u, r = .str y u ∧ Q r s₁) E s := by
      unfold PySem.Builtin.Str.strOf
      rw [show isExactStr (.ref x) = false from rfl]
      refine wpAny_bind (m := cRoomFor _ _) (wpAny_cRoomFor hu ?_)
      refine wpAny_bind (m := callSpecial? (.ref x) (Str.ofString "__str__")) (special_fn X I hs (beq_iff_eq.mp hf) (wpAny_mono h (fun r s' z => ?_) fun _ _ y => y))
      cases r <;> first | exact z.elim | exact wpAny_pure ⟨_, _, rfl, z⟩
    exact wpAny_bind (wpAny_mono key (fun r s₁ hr => wpAny_pure hr) fun _ _ y => y)
  · rintro obj s₁ ⟨y, u, rfl, hq⟩
    exact ⟨typeIs_str _ _ _, PySem.F.args_object_init_2 _ _, object_init_meets PySem.F.called_str.init.lookup PySem.F.called_str.made (by decide) prog w A.in1 _ s₁ ⟨typeIs_str _ _ _, rfl, hq⟩⟩
end
end PySem.W
namespace NG
open PySem PySem.Spec PyProof.Rows L2 He
section
variable {X : Cx} {n : Nat} {C f : Addr} {fd : FuncData} {ps : List Str} {sp : Sp}
def rStrO (C : Addr) (sp : Sp) : List V → Hp → VK → Prop := fun xs H Q => ∃ a dx fs, xs = [.ref a] ∧ H a = some (.ins C dx fs) ∧ sp [.ref a] H (fun v H' => ∃ t : Str, v = .str t ∧ Q (.str t) H') NoX
/-- str(x), x's class has its own __str__ -/
theorem call_strO (F : FnOk X.prog X.w X.K X.mg X.base CX0 n f fd ps sp) (hr : Room (n + 2) X.A) (hs : PySem.W.findIn X.K (.ref C) "__str__" = some (some (.ref f))) (hf : PySem.W.isFn X.K (.ref f) = true) (hb : Binds X.K fd ps []) :
    CallR X (.type "str") (rStrO C sp) := by
  intro pins s σ H xs us Q I r h
  obtain ⟨a, dx, fs, rfl, ha, q⟩ := h
  obtain ⟨u, rfl, ru⟩ := vals1 r
  obtain rfl : u = Value.ref a := ru
  obtain ⟨mA, J, _⟩ := ins_get I.hok ha
  obtain ⟨od, J, _⟩ := J.look
  have hr2 := (Room.in1 (Room.in1 hr))
  refine PySem.W.ng_strcall hr2.units0 I.kIn J hs hf ?_
  refine run_own (A := X.A.in1.in1) (vs := [.ref a]) F hr2 rfl hb I (.cons rfl .nil) q fun v H' u s' rv I' z => ?_
  obtain ⟨t, rfl, z⟩ := z
  obtain ⟨tk, rfl⟩ := rv
  exact ⟨.str t, H', I', ⟨_, rfl⟩, z⟩
end
end NG

set_option Elab.async false
set_option linter.all false
set_option maxRecDepth 100000
set_option maxHeartbeats 400000
/-! is_formula, is_formulas -/
namespace NG
open PySem PySem.Spec PyProof.Rows L2 He
variable {P : Program} {w : World} {K : Fg} {mg : Str → Option Value} {base : Heap}
theorem sc_is_formula : FnScope ["value", "key"] ["value"] (defScope f_is_formula) := ⟨rfl, rfl, rfl, by decide +kernel, rfl, by decide +kernel, by decide +kernel⟩
def spIsF (K : Fg) : Sp := fun vs H Q _ => ∃ a r, vs = [.ref a] ∧ QuA K H a r ∧ ∀ H', Same H H' → Q (.bl true) H'
theorem has_is_formula (e : Ev K mg) : Has P w K mg base 2 "is_formula" ["value"] (spIsF K) := by
  obtain ⟨fd, F⟩ := e.F_f_is_formula
  refine ⟨_, fd, e.g_is_formula, ?_, F.kp, F.bindsN fun _ _ _ _ _ _ us hl => match us, hl with | [_], _ => rfl⟩
  obtain ⟨d1, M1, G1, b1⟩ := hasM_QUsed (P := P) (w := w) (base := base) e
  refine F.okD sc_is_formula (fun vs H Q E h => ?_) (fun cdv A outer s H vs Q E hr h => ?_)
  · obtain ⟨a, r, rfl, _⟩ := h; rfl
  · obtain ⟨a, r, rfl, hq, q⟩ := h
    refine ⟨_, pss_one (ps_ret (pe_and (pe_callB call_isi rfl e.b_isinstance boot_isinstance (pa_cons (pv 0) (pa_cons (pe_glob rfl e.g_Question (v := .ref (ga K "Question")) rfl) pa_nil)))
      (pe_one (pe_callB (show CallR _ (.builtin "all") _ from cr_all rfl) rfl e.b_all (by decide +kernel) (pa_cons (pe_lc (own := [("key", 1)]) (g := gName 1) (tt := tYes) (te := fun _ _ _ => False) rfl sc_is_formula.nd (pi_list (pe_meth0 (pv 0) e.cl_Question M1 G1 hr b1 .nil pass0)) (blkOk_by (N := ["value", "key"]) (sc := defScope f_is_formula) (by decide +kernel))
        (fun _ _ _ _ _ => pg_name (i := 1) sc_is_formula.nd rfl (Or.inl rfl)) (fun _ _ _ _ _ => pts_nil) (fun _ _ _ _ _ => pe_never)) pa_nil))))), ?_⟩
    obtain ⟨dx, d, ha, _⟩ := id hq
    refine ⟨_, rfl, _, _, _, _, _, rfl, .own _, .base (e.ty_Question.ty ha), e.k_Question_Question, true, rfl, iteT ?_⟩
    refine ⟨_, rfl, a, dx, _, rfl, ha, f1_no (by decide), a, r, rfl, hq, fun p H1 s1 hp => ?_⟩
    refine ⟨p, rfl, ⟨_, SqL.of hp⟩, fun D hD => ?_⟩
    refine lc_src (te := fun _ _ _ => False) (src_list (R := isS) (H0 := H1) (bs := []) mn_isS .nil) isBl (fun _ => true) (fun _ => true) ⟨Same.refl _, SqL.of hp⟩ hD (by show 0 < sizeLine; decide) ?_ ?_
    · intro i b x H2 acc Nx hb
      simp at hb
    · intro H2 ys s2 hy he
      have ey := each_bl (he H2 fun _ _ _ z => z)
      have ey : ys = [] := by simpa using ey
      subst ey
      exact ⟨D, [], rfl, SqL.of hy, q _ (s1.trans s2)⟩
abbrev nIsFs : List Str := ["value", "seed", "formula"]
theorem sc_is_formulas : FnScope nIsFs ["value"] (defScope f_is_formulas) := ⟨rfl, rfl, rfl, by decide +kernel, rfl, by decide +kernel, by decide +kernel⟩
/-- a dict of constant formulas by names -/
def isQu (K : Fg) : Rl Rat := fun H v r => ∃ a, v = .ref a ∧ QuA K H a r
theorem mn_Qu : Mn (isQu K) := fun _ _ _ _ s ⟨a, e, h⟩ => ⟨a, e, h.mono s⟩
def FsD (K : Fg) (H : Hp) (d : Addr) (ns : List Str) (r : Rat) : Prop := ∃ kvs : List (Key × V), H d = some (.dK kvs) ∧ kvs.map (·.1) = ns.map Sum.inr ∧ Each (isQu K) H (kvs.map (·.2)) (ns.map fun _ => r)
theorem FsD.mono {H H' : Hp} {d : Addr} {ns : List Str} {r : Rat} (s : Same H H') (h : FsD K H d ns r) : FsD K H' d ns r := let ⟨k, h1, h2, h3⟩ := h; ⟨k, s _ _ h1, h2, h3.mono mn_Qu s⟩
def spIsFs (K : Fg) : Sp := fun vs H Q _ => ∃ d ns r, vs = [.ref d] ∧ FsD K H d ns r ∧ ns.length ≤ 1000 ∧ (∀ n ∈ ns, keyS n = true) ∧ ∀ H', Same H H' → Q (.bl true) H'
theorem lockE {α : Type} {R : Rl α} {H : Hp} {d : Addr} {u : HO} {vs : List V} {as : List α} (h : Each R H vs as) (f : ∀ v a, R H v a → R (upd H d u) v a) : Each R (upd H d u) vs as := h.imp fun v a _ r => f v a r
theorem QuA.lock {H : Hp} {d a : Addr} {od : Obj} {kvs : List (Key × V)} {r : Rat} (h : QuA K H a r) (hd : H d = some (.dK kvs)) : QuA K (upd H d (.frz od (.dK kvs))) a r := by
  obtain ⟨dx, c, h1, u, h2, b, rfl, db, h3⟩ := h
  exact ⟨dx, c, by rw [upd_ne (fun z => by subst z; rw [hd] at h1; exact nomatch h1)]; exact h1, .ref b, by rw [upd_ne (fun z => by subst z; rw [hd] at h2; exact nomatch h2)]; exact h2, b, rfl, db, by rw [upd_ne (fun z => by subst z; rw [hd] at h3; exact nomatch h3)]; exact h3⟩
theorem has_is_formulas (e : Ev K mg) : Has P w K mg base 3 "is_formulas" ["value"] (spIsFs K) := by
  obtain ⟨fd, F⟩ := e.F_f_is_formulas
  refine ⟨_, fd, e.g_is_formulas, ?_, F.kp, F.bindsN fun _ _ _ _ _ _ us hl => match us, hl with | [_], _ => rfl⟩
  obtain ⟨f1', d1, m1, G1, k1, b1⟩ := has_is_key (P := P) (w := w) (base := base) e
  obtain ⟨f2, d2, m2, G2, k2, b2⟩ := has_is_formula (P := P) (w := w) (base := base) e
  refine F.okD sc_is_formulas (fun vs H Q E h => ?_) (fun cdv A outer s H vs Q E hr h => ?_)
  · obtain ⟨d, ns, r, rfl, _⟩ := h; rfl
  · obtain ⟨d, ns, r, rfl, ⟨kvs, hd, hk, he⟩, hl, hkey, q⟩ := h
    have hr1 := hr.mono (show 1 ≤ 2 by decide)
    refine ⟨_, pss_cons (ps_if (pt_not (pt_val (pe_callB call_isi rfl e.b_isinstance boot_isinstance (pa_cons (pv 0) (pa_cons (pe_bltn (v := .ty "dict") rfl e.b_dict boot_dict rfl) pa_nil))))) (pss_one (ps_ret pe_bl)) pss_nil)
      (pss_one (ps_ret (pe_callB (show CallR _ (.builtin "all") _ from cr_all rfl) rfl e.b_all (by decide +kernel) (pa_cons (pe_lock (pe_lc (own := [("seed", 1), ("formula", 2)]) (g := gTup K 2 _) (tt := tYes) rfl sc_is_formulas.nd (pi_items (pv 0)) (blkOk_by (N := nIsFs) (sc := defScope f_is_formulas) (by decide +kernel))
        (fun _ _ _ _ _ => pg_tup rfl (pgs_cons (pg_name (i := 1) sc_is_formulas.nd rfl (Or.inl rfl)) (pgs_cons (pg_name (i := 2) sc_is_formulas.nd rfl (Or.inl rfl)) pgs_nil))) (fun _ _ _ _ _ => pts_nil)
        (fun _ _ _ _ _ => pe_and (pe_call G1 hr1 rfl m1 k1 b1 .nil pass0 (pa_cons (pv 1) pa_nil)) (pe_one (pe_call G2 hr rfl m2 k2 b2 .nil pass0 (pa_cons (pv 2) pa_nil)))))) pa_nil)))), ?_⟩
    refine ⟨_, rfl, _, .ty "dict", _, _, _, rfl, .ty _, .base (.dK hd), kit_ty (by decide +kernel : kitB "dict" "dict" = some true), true, rfl, iteF ?_⟩
    refine ⟨d, _, hd, trivial, fun od => ?_⟩
    refine ⟨_, rfl, d, od, kvs, rfl, upd_same, fun D hD => ?_⟩
    have heL : Each (isQu K) (upd H d (.frz od (.dK kvs))) (kvs.map (·.2)) (ns.map fun _ => r) := lockE he fun v a ⟨b, e1, h⟩ => ⟨b, e1, h.lock hd⟩
    have hz : ((kvs.map (·.1)).zip (ns.map fun _ => r)).length ≤ 1000 := by rw [List.length_zip, List.length_map, List.length_map]; omega
    refine lc_src (src_items mn_Qu heL) isBl (fun _ => true) (fun _ => true) ⟨Same.refl _, upd_same⟩ hD (small1000 hz) ?_ ?_
    · rintro j ⟨k, r'⟩ y H3 acc Nx hp s3 hd3 ⟨T, x1, x2, ey, hT, e1, ⟨b, e2, hb⟩⟩ hD3 hl3 _ _ kT
      subst ey
      obtain rfl := e2
      have hkm : k ∈ kvs.map (·.1) := (List.of_mem_zip (List.mem_of_getElem? hp)).1
      rw [hk] at hkm
      obtain ⟨n, hn, rfl⟩ := List.mem_map.mp hkm
      have e1 : x1 = .str n := e1
      subst e1
      refine ⟨T, _, rfl, SqT.of hT, rfl, _, _, rfl, _, _, rfl, rfl, rfl, tYes_of ?_⟩
      refine ⟨_, rfl, .str n, rfl, .inl ⟨n, rfl, by have := keyS_len (hkey n hn); omega, fun H4 s4 => ?_⟩⟩
      rw [hkey n hn]
      refine ⟨true, rfl, iteT ?_⟩
      refine ⟨_, rfl, b, r', rfl, hb.mono s4, fun H5 s5 => ?_⟩
      have s45 := s4.trans s5
      exact ⟨acc, s45 _ _ hD3, hl3, kT rfl _ _ s45 fun _ _ => rfl⟩
    · intro H3 ys s3 hy he3
      have ey := each_bl (he3 H3 fun _ _ _ z => z)
      rw [filt] at ey
      have hDd : D ≠ d := fun z => by rw [z, upd_same] at hD; exact nomatch hD
      have sU := unlock_same hd s3
      refine ⟨s3 _ _ upd_same, D, _, rfl, SqL.of (by rw [upd_ne hDd, hy, ey]), ?_⟩
      rw [List.all_map]
      have ea : ((kvs.map (·.1)).zip (ns.map fun _ => r)).all (id ∘ fun _ => true) = true := List.all_eq_true.mpr fun _ _ => rfl
      rw [ea]
      exact q _ sU
end NG

set_option Elab.async false
set_option linter.all false
set_option maxRecDepth 100000
set_option maxHeartbeats 400000
/-! dict comprehensions over a source; heaps without one object -/
namespace NG
open PySem PySem.Spec PyProof.Rows L2 He
theorem del_mono {H H' : Hp} {x : Addr} (s : Same H H') : Same (del x H) (del x H') := fun c o e => by
  have hc : c ≠ x := fun z => by subst z; unfold del at e; rw [if_pos rfl] at e; exact nomatch e
  rw [del_ne hc] at e ⊢
  exact s _ _ e
theorem del_updS {H : Hp} {x : Addr} {o : HO} : del x (upd H x o) = del x H := by
  funext c
  unfold del
  by_cases hc : c = x
  · rw [if_pos hc, if_pos hc]
  · rw [if_neg hc, if_neg hc, upd_ne hc]
theorem del_at {H : Hp} {x c : Addr} {o : HO} (hc : c ≠ x) (h : H c = some o) : del x H c = some o := by rw [del_ne hc]; exact h
theorem sub_takeG {α : Type} {ks : List α} (hnd : ks.Nodup) {i : Nat} {b : α} (hb : ks[i]? = some b) : b ∉ ks.take i := fun z => by
  obtain ⟨j, hj, e2⟩ := List.mem_iff_getElem.mp z
  rw [List.getElem_take] at e2
  rw [List.length_take] at hj
  obtain ⟨hi', e1⟩ := List.getElem?_eq_some_iff.mp hb
  exact List.pairwise_iff_getElem.mp hnd j i (by omega) hi' (by omega) (e2.trans e1.symm)
/-- a dict comprehension over a source, its keys all different -/
theorem dc_src {α β : Type} {J : It} {Hs : Hp → Prop} {R : Rl α} {bs : List α} {g : TG} {tt : TT} {tk tv : TE} {ws : List Nat} {σ : L2.St} {H1 : Hp} {D : Addr} {Qd : Hp → Prop}
    (S : Src J Hs R bs) (R' : Rl β) (kf : α → Key) (f : α → β) (h1 : Hs H1) (nD : H1 D = none) (hz : bs.length < sizeLine) (hnd : (bs.map kf).Nodup)
    (turn : ∀ (i : Nat) (b : α) (x : V) (H : Hp) (kvs : List (Key × V)) (Nx : Hp → Prop), bs[i]? = some b → Same H1 H → Hs H → R H x b → H D = some (.dK kvs) → kvs.length < sizeLine → H1 D = none →
      (∀ z H4, Same H H4 → (∀ H5, But D H4 H5 → R' H5 z (f b)) → Nx (upd H4 D (.dK (putK kvs (kf b) z)))) →
      g x (wipe σ ws) H fun σ2 H2 => wipe σ2 ws = wipe σ ws ∧ tt σ2 H2 fun c H3 => if c = true then tk σ2 H3 fun y H4 => tv σ2 H4 fun z H5 => ∃ kvs' k, y = kV k ∧ H5 D = some (.dK kvs') ∧ kvs'.length < sizeLine ∧ Nx (upd H5 D (.dK (putK kvs' k z))) else Nx H3)
    (done : ∀ H kvs, Same H1 H → H D = some (.dK kvs) → kvs.map (·.1) = bs.map kf → (∀ H5, But D H H5 → Each R' H5 (kvs.map (·.2)) (bs.map f)) → Qd H) :
    ∃ W : Nat → Nat → Hp → Prop, (∃ m, W 0 m (upd H1 D (.dK []))) ∧ ∀ i m H, W i m H →
      (J.stop i H ∧ Qd H) ∨ (J.go i H ∧ ∃ Nx : Hp → Prop, (∀ H', Nx H' → ∃ m', m' < m ∧ W (i + 1) m' H') ∧ ∀ x H', J.yld i H x H' → g x (wipe σ ws) H' fun σ2 H2 => wipe σ2 ws = wipe σ ws ∧ tt σ2 H2 fun b H3 =>
        if b = true then tk σ2 H3 fun y H4 => tv σ2 H4 fun z H5 => ∃ kvs k, y = kV k ∧ H5 D = some (.dK kvs) ∧ kvs.length < sizeLine ∧ Nx (upd H5 D (.dK (putK kvs k z))) else Nx H3) := by
  have hd : ∀ H, Same H1 H → Hs H := fun H s => S.keep _ _ s h1
  refine ⟨fun i m H => m = bs.length - i ∧ i ≤ bs.length ∧ Same H1 H ∧ ∃ kvs, H D = some (.dK kvs) ∧ kvs.map (·.1) = (bs.take i).map kf ∧ ∀ H5, But D H H5 → Each R' H5 (kvs.map (·.2)) ((bs.take i).map f),
    ⟨bs.length, by simp, Nat.zero_le _, same_upd nD, [], upd_same, by simp, fun _ _ => by simpa using Each.nil⟩, ?_⟩
  rintro i m H ⟨rfl, hi, s, kvs, hy, hk, he⟩
  have hlk : kvs.length = i := by
    have := congrArg List.length hk
    simp only [List.length_map, List.length_take] at this
    omega
  by_cases hlt : i < bs.length
  · refine .inr ⟨S.go i H (hd H s) hlt, _, fun H' z => ⟨bs.length - (i + 1), by omega, z⟩, fun x H' yl => ?_⟩
    obtain ⟨b, hb, r, s'⟩ := S.yld i H x H' (hd H s) hlt yl
    have hyD : H' D = some (.dK kvs) := s' _ _ hy
    have tk' : bs.take (i + 1) = bs.take i ++ [b] := by rw [List.take_add_one, hb]; rfl
    have hnew : kf b ∉ kvs.map (·.1) := fun z => by
      rw [hk] at z
      have e1 : (bs.map kf)[i]? = some (kf b) := by rw [List.getElem?_map, hb]; rfl
      rw [List.map_take] at z
      exact sub_takeG hnd e1 z
    refine turn i b x H' kvs _ hb (s.trans s') (S.keep _ _ s' (hd H s)) r hyD (by omega) nD fun z H4 s4 r' => ?_
    rw [putK_new _ (valV_none hnew)]
    refine ⟨rfl, hlt, ?_, kvs ++ [(kf b, z)], upd_same, ?_, fun H5 b5 => ?_⟩
    · exact Same.butN (s.trans (s'.trans s4)) nD But.upd
    · rw [List.map_append, hk, tk', List.map_append]; rfl
    · rw [List.map_append, tk', List.map_append]
      refine Each.append ?_ (.cons ?_ .nil)
      · exact he H5 (((But.of_same (s'.trans s4)).trans But.upd).trans b5)
      · exact r' H5 (But.upd.trans b5)
  · have ei : i = bs.length := by omega
    subst ei
    rw [List.take_length] at hk he
    exact .inl ⟨S.stop H (hd H s), done H kvs s hy hk he⟩
end NG

set_option Elab.async false
set_option linter.all false
set_option maxRecDepth 100000
set_option maxHeartbeats 400000
/-! Rule.__init__ -/
namespace NG
open PySem PySem.Spec PyProof.Rows L2 He
variable {P : Program} {w : World} {K : Fg} {mg : Str → Option Value} {base : Heap}
theorem src_vals {α : Type} {R : Rl α} (hm : Mn R) {d : Addr} {o : Obj} {kvs : List (Key × V)} {as : List α} {H0 : Hp} (e : Each R H0 (kvs.map (·.2)) as) :
    Src (Itd d o kvs) (fun H => Same H0 H ∧ H d = some (.frz o (.dK kvs))) R as where
  keep := fun _ _ s h => ⟨h.1.trans s, s _ _ h.2⟩
  go := fun i H h hi => ⟨h.2, by have := e.length; simp at this; omega⟩
  stop := fun H h => ⟨h.2, by have := e.length; simp at this; omega⟩
  yld := fun i H x H' h hi y => by
    obtain ⟨rfl, k, ek⟩ := y
    obtain ⟨a, ha, r⟩ := e.get (i := i) (v := x) (by rw [List.getElem?_map, ek]; rfl)
    exact ⟨a, ha, hm _ _ _ _ h.1 r, Same.refl _⟩
theorem FsD.at {H : Hp} {d : Addr} {ns : List Str} {r : Rat} (h : FsD K H d ns r) (hn : ns.Nodup) {s : Str} (hs : s ∈ ns) : ∃ v, (∀ H', Same H H' → DGet H' d (.str s) (some v)) ∧ isQu K H v r := by
  obtain ⟨kvs, hd, hk, he⟩ := h
  obtain ⟨i, hi⟩ := List.mem_iff_getElem?.mp hs
  have e1 : (kvs.map (·.1))[i]? = some (Sum.inr s) := by rw [hk, List.getElem?_map, hi]; rfl
  rw [List.getElem?_map] at e1
  obtain ⟨⟨k, v⟩, e2, e3⟩ := Option.map_eq_some_iff.mp e1
  cases e3
  have nd : (kvs.map (·.1)).Nodup := by
    rw [hk]
    exact List.Pairwise.map _ (fun a b hab z => hab (Sum.inr.inj z)) hn
  obtain ⟨a, ha, r1⟩ := he.get (i := i) (v := v) (by rw [List.getElem?_map, e2]; rfl)
  have ea : a = r := by
    rw [List.getElem?_map, hi] at ha
    exact (Option.some.inj ha).symm
  subst ea
  exact ⟨v, fun H' s' => .inl ⟨kvs, Sum.inr s, .inl (s' _ _ hd), rfl, (valV_of nd e2).symm⟩, r1⟩
def ruf (f t : Addr) (g : Int) : List (Str × V) := putF "own_degree" (.int g) (putF "own_texts" (.ref t) (putF "own_formulas" (.ref f) []))
theorem ruf_f (f t g) : (ruf f t g).lookup ("own_formulas" : Str) = some (.ref f) := by unfold ruf; rw [lookup_putF, if_neg (by decide), lookup_putF, if_neg (by decide), lookup_putF, if_pos rfl]
theorem ruf_t (f t g) : (ruf f t g).lookup ("own_texts" : Str) = some (.ref t) := by unfold ruf; rw [lookup_putF, if_neg (by decide), lookup_putF, if_pos rfl]
theorem ruf_no {f t g} {m : Str} (h1 : ¬ m = "own_degree") (h2 : ¬ m = "own_texts") (h3 : ¬ m = "own_formulas") : (ruf f t g).lookup m = none := by
  unfold ruf; rw [lookup_putF, if_neg h1, lookup_putF, if_neg h2, lookup_putF, if_neg h3]; rfl
def txKV (ns : List Str) (n : Int) : List (Key × V) := ns.map fun s => (Sum.inr s, .str (qTxt n))
/-- a rule of one constant for all seeds -/
def RuA (K : Fg) (H : Hp) (a : Addr) (ns : List Str) (n : Int) : Prop := ∃ dx f t g, H a = some (.ins (ga K "Rule") dx (ruf f t g)) ∧ FsD K H f ns n ∧ H t = some (.dK (txKV ns n))
theorem RuA.mono {H H' : Hp} {a : Addr} {ns : List Str} {n : Int} (s : Same H H') (h : RuA K H a ns n) : RuA K H' a ns n := let ⟨dx, f, t, g, h1, h2, h3⟩ := h; ⟨dx, f, t, g, s _ _ h1, h2.mono s, s _ _ h3⟩
theorem pairs_eq {c : V} : ∀ {l : List (Key × V)} {ys : List Str}, l.map (·.1) = ys.map Sum.inr → (∀ p ∈ l, p.2 = c) → l = ys.map fun s => (Sum.inr s, c)
  | [], [], _, _ => rfl
  | [], _ :: _, h, _ => by simp at h
  | _ :: _, [], h, _ => by simp at h
  | (k, v) :: l, y :: ys, h, hp => by
    simp only [List.map_cons, List.cons.injEq] at h
    have h1 := hp (k, v) List.mem_cons_self
    rw [List.map_cons, ← pairs_eq h.2 fun p hp' => hp p (List.mem_cons_of_mem _ hp')]
    simp only at h1
    rw [h1, h.1]
theorem zip_fst {α β : Type} : ∀ {l : List α} {m : List β}, l.length = m.length → (l.zip m).map (·.1) = l
  | [], _, _ => by simp
  | a :: l, [], h => by simp at h
  | a :: l, b :: m, h => by
    rw [List.zip_cons_cons, List.map_cons, zip_fst (by simpa using h)]
abbrev nRInit : List Str := ["self", "formulas", "seed", "formula"]
theorem sc_RuInit : FnScope nRInit ["self", "formulas"] (defScope m_Rule_init) := ⟨rfl, rfl, rfl, by decide +kernel, rfl, by decide +kernel, by decide +kernel⟩
def spRuInit (K : Fg) : Sp := fun vs H Q _ => ∃ (x dx d : Addr) (ns : List Str) (n : Int), vs = [.ref x, .ref d] ∧ FsD K (del x H) d ns n ∧ ns.Nodup ∧ ns.length < 64 ∧ (∀ s ∈ ns, keyS s = true) ∧ 0 < n ∧ n.natAbs.log2 < 1920 ∧ H x = some (.ins (ga K "Rule") dx []) ∧
  ∀ H' ys, But x H H' → ys.Perm ns → sortedS ys = true → RuA K H' x ys n → Q .non H'
theorem hasC_Rule (e : Ev K mg) : HasC P w K mg base 6 "Rule" ["self", "formulas"] [] (spRuInit K) := by
  obtain ⟨fd, F⟩ := e.F_m_Rule_init
  refine ⟨fd, [], e.mk_Rule, e.g_Rule, ?_, .nil, F.bindsN fun _ _ _ _ _ _ us hl => match us, hl with | [_, _], _ => rfl⟩
  obtain ⟨f1', d1, m1, G1, k1, b1⟩ := has_is_formulas (P := P) (w := w) (base := base) e
  obtain ⟨d2, M2, G2, b2⟩ := hasM_QStr (P := P) (w := w) (base := base) e
  obtain ⟨d3, p3, G3, b3⟩ := hasP_degree (P := P) (w := w) (base := base) e
  refine F.okD sc_RuInit (fun vs H Q E h => ?_) (fun cdv A outer s H vs Q E hr h => ?_)
  · obtain ⟨x, dx, d, ns, n, rfl, _⟩ := h; rfl
  · obtain ⟨x, dx, d, ns, n, rfl, hF, hnd, hl, hkey, hn, hlog, hx, q⟩ := h
    have hr3 := hr.mono (show 3 ≤ 5 by decide)
    have hr2 := hr.mono (show 2 ≤ 5 by decide)
    have hu := hu_of hr
    refine ⟨_, pss_cons (ps_if (pt_not (pt_val (pe_call G1 hr3 rfl m1 k1 b1 .nil pass0 (pa_cons (pv 1) pa_nil)))) (pss_one ps_never) pss_nil)
      (pss_cons (ps_fld (pv 0) (pe_dc (own := [("seed", 2)]) (g := gName 2) (tt := tYes) rfl sc_RuInit.nd (pi_list (pe_callB (call_sortedD rfl) rfl e.b_sorted boot_sorted (pa_cons (pv 1) pa_nil))) (blkOk_by (N := nRInit) (sc := defScope m_Rule_init) (by decide +kernel))
        (fun _ _ _ _ _ => pg_name (i := 2) sc_RuInit.nd rfl (Or.inl rfl)) (fun _ _ _ _ _ => pts_nil) (fun _ _ _ _ _ => pv 2) (fun _ _ _ _ _ => pe_dget hu (pv 1) (pv 2) (fun _ _ => rfl))) rfl)
      (pss_cons (ps_fld (pv 0) (pe_lock (pe_dc (own := [("seed", 2), ("formula", 3)]) (g := gTup K 2 _) (tt := tYes) rfl sc_RuInit.nd (pi_items (pe_fld (pv 0) rfl)) (blkOk_by (N := nRInit) (sc := defScope m_Rule_init) (by decide +kernel))
        (fun _ _ _ _ _ => pg_tup rfl (pgs_cons (pg_name (i := 2) sc_RuInit.nd rfl (Or.inl rfl)) (pgs_cons (pg_name (i := 3) sc_RuInit.nd rfl (Or.inl rfl)) pgs_nil))) (fun _ _ _ _ _ => pts_nil) (fun _ _ _ _ _ => pv 2)
        (fun _ _ _ _ _ => pe_callTy (show CallR _ (.type "str") (rStrO (ga K "Question") (spQStr K)) from call_strO G2 hr M2.at_ M2.fn b2) rfl e.b_str boot_str (pa_cons (pv 3) pa_nil)))) rfl)
      (pss_one (ps_fld (pv 0) (pe_callB (cr_max rfl) rfl e.b_max boot_max (pa_cons (pe_op op_cat (pe_lst (pa_cons (pe_un un_neg pe_int) pa_nil)) (pe_lock (pe_lc (own := [("formula", 3)]) (g := gName 3) (tt := tYes) rfl sc_RuInit.nd (pi_values (pe_fld (pv 0) rfl)) (blkOk_by (N := nRInit) (sc := defScope m_Rule_init) (by decide +kernel))
        (fun _ _ _ _ _ => pg_name (i := 3) sc_RuInit.nd rfl (Or.inl rfl)) (fun _ _ _ _ _ => pts_nil) (fun _ _ _ _ _ => pe_prop (pv 3) e.cl_Question p3 G3 hr2 b3 .nil pass0 rfl)))) pa_nil)) rfl)))), ?_⟩
    have sD : Same (del x H) H := del_same
    refine ⟨_, rfl, d, ns, n, rfl, hF.mono sD, by omega, hkey, fun H1 s1 => ?_⟩
    refine ⟨true, rfl, iteF ?_⟩
    have hx1 := s1 _ _ hx
    have hF1 : FsD K (del x H1) d ns n := hF.mono (del_mono s1)
    obtain ⟨kvs, hd, hk, he⟩ := id hF1
    have hdx : d ≠ x := fun z => by subst z; unfold del at hd; rw [if_pos rfl] at hd; exact nomatch hd
    have hd1 := del_same _ _ hd
    refine ⟨_, rfl, d, kvs, ns, rfl, .inl hd1, hk, hl, fun ys l hperm hsrt hlp => ?_⟩
    have s2 := same_upd (o := .lst (ys.map V.str)) hlp
    have hnd2 : ys.Nodup := hperm.nodup_iff.mpr hnd
    have hl2 : ys.length = ns.length := hperm.length_eq
    refine ⟨l, rfl, ⟨_, SqL.of upd_same⟩, fun D hD => ?_⟩
    refine dc_src (src_list (R := isS) (H0 := upd H1 l (.lst (ys.map V.str))) mn_isS (Each.map V.str fun _ _ => rfl)) (fun _ v r => isQu K (del x H1) v r) Sum.inr (fun _ => (n : Rat)) ⟨Same.refl _, SqL.of upd_same⟩ hD (small1000 (by omega)) (List.Pairwise.map _ (fun a b hab z => hab (Sum.inr.inj z)) hnd2) ?_ ?_
    · rintro i b y H3 kvs' Nx hb s3 _ rfl hD3 hl3 _ kT
      refine ⟨rfl, tYes_of ?_⟩
      have s13 := s2.trans s3
      obtain ⟨v, hv, hv2⟩ := hF1.at hnd ((hperm.mem_iff).mp (List.mem_of_getElem? hb))
      exact ⟨_, rfl, _, rfl, _, rfl, d, v, rfl, hv _ (del_same.trans s13), kvs', Sum.inr b, rfl, hD3, hl3, kT v H3 (Same.refl _) fun H5 b5 => hv2⟩
    · intro H3 kf s3 hD3 hk3 he3
      have s13 := s2.trans s3
      have hx3 := s13 _ _ hx1
      have hDx : D ≠ x := fun z => by subst z; rw [hD3] at hx3; exact nomatch hx3
      have hG3 : FsD K (del x H3) D ys n := ⟨kf, del_at hDx hD3, hk3, (he3 H3 fun _ _ _ z => z).imp fun v a _ r => mn_Qu _ _ _ _ (del_mono s13) r⟩
      have bx3 : But x H H3 := But.of_same (s1.trans s13)
      refine ⟨_, rfl, x, _, dx, _, rfl, hx3, e.cl_Rule, e.n_Rule_own_formulas, (by decide), ?_⟩
      rw [← del_updS (x := x) (o := .ins (ga K "Rule") dx (putF "own_formulas" (.ref D) []))] at hG3
      have hx4 : upd H3 x (.ins (ga K "Rule") dx (putF "own_formulas" (.ref D) [])) x = some (.ins (ga K "Rule") dx (putF "own_formulas" (.ref D) [])) := upd_same
      have hD4 : upd H3 x (.ins (ga K "Rule") dx (putF "own_formulas" (.ref D) [])) D = some (.dK kf) := by rw [upd_ne hDx]; exact hD3
      have bx4 := bx3.trans (But.upd (d := x) (o := .ins (ga K "Rule") dx (putF "own_formulas" (.ref D) [])))
      have heq : Each (isQu K) (upd H3 x (.ins (ga K "Rule") dx (putF "own_formulas" (.ref D) []))) (kf.map (·.2)) (ys.map fun _ => (n : Rat)) := by
        obtain ⟨kf', g1, g2, g3⟩ := hG3
        have := del_same _ _ g1
        rw [hD4] at this
        cases this
        exact g3.mono mn_Qu del_same
      generalize upd H3 x (.ins (ga K "Rule") dx (putF "own_formulas" (.ref D) [])) = H4 at hG3 hx4 hD4 bx4 heq ⊢
      have hlk : kf.length = ys.length := by simpa using congrArg List.length hk3
      have hxD : x ≠ D := fun z => hDx z.symm
      refine ⟨D, _, hD4, trivial, fun od => ?_⟩
      refine ⟨_, rfl, x, _, dx, _, _, rfl, by rw [upd_ne hxD]; exact hx4, e.cl_Rule, e.n_Rule_own_formulas, by rw [lookup_putF, if_pos rfl], D, od, kf, rfl, upd_same, fun D2 hD2 => ?_⟩
      have heL : Each (isQu K) (upd H4 D (.frz od (.dK kf))) (kf.map (·.2)) (ys.map fun _ => (n : Rat)) := lockE heq fun v a ⟨b, e1, h⟩ => ⟨b, e1, h.lock hD4⟩
      have hlz : (kf.map (·.1)).length = (ys.map fun _ => (n : Rat)).length := by rw [List.length_map, List.length_map]; exact hlk
      have hD2x : D2 ≠ x := fun z => by subst z; rw [upd_ne hxD, hx4] at hD2; exact nomatch hD2
      have hD2D : D2 ≠ D := fun z => by rw [z, upd_same] at hD2; exact nomatch hD2
      refine dc_src (src_items mn_Qu heL) (fun _ v (_ : Rat) => v = .str (qTxt n)) (·.1) (·.2) ⟨Same.refl _, upd_same⟩ hD2 (by rw [List.length_zip, List.length_map, List.length_map]; exact small1000 (by omega)) (by rw [zip_fst hlz, hk3]; exact List.Pairwise.map _ (fun a b hab z => hab (Sum.inr.inj z)) hnd2) ?_ ?_
      · rintro j ⟨k, r'⟩ y H5 kvs5 Nx hp s5 hd5 ⟨T, x1, x2, ey, hT, e1, ⟨b, e2, hb⟩⟩ hD5 hl5 _ kT
        subst ey
        obtain rfl := e2
        obtain rfl := e1
        have hr' : r' = n := by
          have := (List.of_mem_zip (List.mem_of_getElem? hp)).2
          obtain ⟨_, _, e3⟩ := List.mem_map.mp this
          exact e3.symm
        subst hr'
        refine ⟨T, _, rfl, SqT.of hT, rfl, _, _, rfl, _, _, rfl, rfl, rfl, tYes_of ?_⟩
        obtain ⟨dy, c, h1, _⟩ := id hb
        exact ⟨_, rfl, _, rfl, b, dy, _, rfl, h1, b, n, rfl, hb, hn, hlog, fun H6 s6 => ⟨_, rfl, kvs5, k, rfl, s6 _ _ hD5, hl5, kT _ _ s6 fun _ _ => rfl⟩⟩
      · intro H5 kt s5 hD5 hk5 he5
        have hk6 : kt.map (·.1) = ys.map Sum.inr := by rw [hk5, zip_fst hlz, hk3]
        have hkt : kt = txKV ys n := pairs_eq hk6 fun p hp => by
          obtain ⟨_, _, e3⟩ := (he5 H5 fun _ _ _ z => z).mem (List.mem_map.mpr ⟨p, hp, rfl⟩)
          exact e3
        subst hkt
        have sU := unlock_same hD4 s5
        have hx6 : upd H5 D (.dK kf) x = some (.ins (ga K "Rule") dx (putF "own_formulas" (.ref D) [])) := sU _ _ hx4
        have hT6 : upd H5 D (.dK kf) D2 = some (.dK (txKV ys n)) := by rw [upd_ne hD2D]; exact hD5
        refine ⟨s5 _ _ upd_same, ?_⟩
        have hG6 : FsD K (del x (upd H5 D (.dK kf))) D ys n := hG3.mono (del_mono sU)
        have heq6 := heq.mono mn_Qu sU
        have hD6 : upd H5 D (.dK kf) D = some (.dK kf) := upd_same
        have bx6 := bx4.trans (But.of_same sU)
        generalize upd H5 D (.dK kf) = H6 at hx6 hT6 hG6 heq6 hD6 bx6 ⊢
        refine ⟨_, rfl, x, _, dx, _, rfl, hx6, e.cl_Rule, e.n_Rule_own_texts, ?_, ?_⟩
        · exact Nat.lt_of_le_of_lt (length_putF _ _ _) (by decide)
        have hx7 : upd H6 x (.ins (ga K "Rule") dx (putF "own_texts" (.ref D2) (putF "own_formulas" (.ref D) []))) x = some (.ins (ga K "Rule") dx (putF "own_texts" (.ref D2) (putF "own_formulas" (.ref D) []))) := upd_same
        have hD7 : upd H6 x (.ins (ga K "Rule") dx (putF "own_texts" (.ref D2) (putF "own_formulas" (.ref D) []))) D = some (.dK kf) := by rw [upd_ne hDx]; exact hD6
        have hT7 : upd H6 x (.ins (ga K "Rule") dx (putF "own_texts" (.ref D2) (putF "own_formulas" (.ref D) []))) D2 = some (.dK (txKV ys n)) := by rw [upd_ne hD2x]; exact hT6
        have bx7 := bx6.trans (But.upd (d := x) (o := .ins (ga K "Rule") dx (putF "own_texts" (.ref D2) (putF "own_formulas" (.ref D) []))))
        rw [← del_updS (x := x) (o := .ins (ga K "Rule") dx (putF "own_texts" (.ref D2) (putF "own_formulas" (.ref D) [])))] at hG6
        have heq7 : Each (isQu K) (upd H6 x (.ins (ga K "Rule") dx (putF "own_texts" (.ref D2) (putF "own_formulas" (.ref D) [])))) (kf.map (·.2)) (ys.map fun _ => (n : Rat)) := by
          obtain ⟨kf', g1, g2, g3⟩ := hG6
          have := del_same _ _ g1
          rw [hD7] at this
          cases this
          exact g3.mono mn_Qu del_same
        generalize upd H6 x (.ins (ga K "Rule") dx (putF "own_texts" (.ref D2) (putF "own_formulas" (.ref D) []))) = H7 at hx7 hD7 hT7 bx7 hG6 heq7 ⊢
        refine ⟨_, rfl, (by show 1 ≤ sizeLine; decide), fun pl hpl => ?_⟩
        have s8 := same_upd (o := .lst [.int (-1)]) hpl
        have hD8 := s8 _ _ hD7
        refine ⟨D, _, hD8, trivial, fun od2 => ?_⟩
        refine ⟨_, rfl, x, _, dx, _, _, rfl, by rw [upd_ne hxD]; exact s8 _ _ hx7, e.cl_Rule, e.n_Rule_own_formulas, by rw [lookup_putF, if_neg (by decide), lookup_putF, if_pos rfl], D, od2, kf, rfl, upd_same, fun D3 hD3' => ?_⟩
        have heL8 : Each (isQu K) (upd (upd H7 pl (.lst [.int (-1)])) D (.frz od2 (.dK kf))) (kf.map (·.2)) (ys.map fun _ => (n : Rat)) := lockE (heq7.mono mn_Qu s8) fun v a ⟨b, e1, h⟩ => ⟨b, e1, h.lock hD8⟩
        have hD3D : D3 ≠ D := fun z => by rw [z, upd_same] at hD3'; exact nomatch hD3'
        refine lc_src (src_vals mn_Qu heL8) isI (fun _ => (0 : Int)) (fun _ => true) ⟨Same.refl _, upd_same⟩ hD3' (small1000 (by rw [List.length_map]; omega)) ?_ ?_
        · rintro j r' y H9 acc Nx hp s9 _ ⟨b, rfl, hb⟩ hD9 hl9 _ _ kT
          refine ⟨rfl, tYes_of ?_⟩
          obtain ⟨dy, c, h1, _⟩ := id hb
          exact ⟨_, rfl, b, dy, _, rfl, h1, b, r', rfl, hb, fun H10 s10 => ⟨acc, s10 _ _ hD9, hl9, kT rfl _ _ s10 fun _ _ => rfl⟩⟩
        · intro H9 zs s9 hD9 he9
          have ez := (he9 H9 fun _ _ _ z => z).eq_map V.int (fun _ _ z => z)
          rw [filt] at ez
          have sV := unlock_same hD8 s9
          have h3 : upd H9 D (.dK kf) D3 = some (.lst zs) := by rw [upd_ne hD3D]; exact hD9
          refine ⟨s9 _ _ upd_same, ?_⟩
          have s79 := s8.trans sV
          have hpl9 : upd H9 D (.dK kf) pl = some (.lst [.int (-1)]) := sV _ _ upd_same
          generalize upd H9 D (.dK kf) = H10 at sV s79 h3 hpl9 ⊢
          have hzl : zs.length = ys.length := by rw [ez]; simp
          refine ⟨pl, D3, [.int (-1)], zs, rfl, rfl, hpl9, h3, by show 1 + zs.length ≤ sizeLine; rw [hzl, sizeLine_eq]; omega, fun p2 hp2 => ?_⟩
          have s11 := same_upd (o := .lst ([V.int (-1)] ++ zs)) hp2
          refine ⟨p2, (-1) :: ((ys.map fun _ => (n : Rat)).map fun _ => (0 : Int)), rfl, ?_, by simp, fun m _ _ => ?_⟩
          · refine SqL.of ?_
            rw [upd_same, ez]
            rfl
          · have s12 := s79.trans s11
            have hx12 := s12 _ _ hx7
            refine ⟨_, rfl, x, _, dx, _, rfl, hx12, e.cl_Rule, e.n_Rule_own_degree, ?_, ?_⟩
            · have h1 := length_putF "own_texts" (.ref D2) (putF "own_formulas" (.ref D) [])
              have h2 := length_putF "own_formulas" (.ref D) []
              simp only [List.length_nil] at h2
              omega
            have hT12 := s12 _ _ hT7
            refine q _ ys ((bx7.trans (But.of_same s12)).trans But.upd) hperm hsrt ⟨dx, D, D2, m, upd_same, (hG6.mono (del_mono s12)).mono del_upd, ?_⟩
            rw [upd_ne hD2x]
            exact hT12
end NG

set_option Elab.async false
set_option linter.all false
set_option maxRecDepth 100000
set_option maxHeartbeats 400000
/-! a for loop in a generator's body -/
namespace NG
open PySem PySem.Spec PyProof.Rows L2 GenW
section
theorem sem_assoc {α β γ : Type} (m : Sem α) (f : α → Sem β) (g : β → Sem γ) : (m >>= f) >>= g = m >>= fun a => f a >>= g := by
  rw [Sem.bind_eq_wrap' (m >>= f), Sem.bind_eq_wrap' m f, Sem.wrap_wrap, Sem.bind_eq_wrap' m]
  exact Sem.wrap_congr m _ _ (fun a => (Sem.bind_eq_wrap' _ _).symm) fun e => rfl
variable {M : Model} {A : Around} {R : GenEnd} {Y : Protocol} {n : Nat} {s₀ : Shared} {c : Code} {fs : List Frame} {s : Shared} {env : Env}
  {K : Flow → Sem PySem.Fin} {H : Value → Sem PySem.Fin} {gd : Bool → Bool} {lv : List Value → List Value}
theorem seg_runOwn {c' : Code} (h : ∀ p, Seg M A R Y n s₀ c' (M.den c') (.ret (fun r => ((match r with | .ok f => (.pure f : Sem Flow) | .error e => .raise e).onRaise (cameBack env)).wrap K H gd lv) none (gd false) (lv []) c p [] :: fs) s) :
    Seg M A R Y n s₀ c ((runOwn c' env).wrap K H gd lv) fs s := seg_call h
/-- the iterator of a for -/
def forIt (iter : Expr) (env : Env) (pos : Pos) : Sem Value := do
  standAt pos
  let x ← foldedSetIterable iter env (← eval iter env)
  standAt iter.pos
  holding [x] (pyIter x)
theorem exec_For_it (target iter : Expr) (body orelse : List Stmt) (pos : Pos) : exec (.For target iter body orelse pos) env = forIt iter env pos >>= fun it => runOwn (.forLoop target it body orelse env) env := by
  rw [exec_For]
  unfold forIt
  simp only [sem_assoc]
theorem seg_For {target iter : Expr} {body orelse : List Stmt} {pos : Pos}
    (h : wpAny M (A.over c fs) (eval iter env) (fun x s₁ => wpAny M (A.over c fs) (pyIter x) (fun it s₂ => ∀ p, Seg M A R Y n s₀ (.forLoop target it body orelse env) (M.den (.forLoop target it body orelse env))
      (.ret (fun r => ((match r with | .ok f => (.pure f : Sem Flow) | .error e => .raise e).onRaise (cameBack env)).wrap K H gd lv) none (gd false) (lv []) c p [] :: fs) s₂) (fun x s' => Seg M A R Y n s₀ c (H x) fs s') s₁) (fun x s' => Seg M A R Y n s₀ c (H x) fs s') s)
    (hs : ∀ x, foldedSetIterable iter env x = pure x) : Seg M A R Y n s₀ c ((exec (.For target iter body orelse pos) env).wrap K H gd lv) fs s := by
  rw [exec_For_it, Sem.bind_eq_wrap', Sem.wrap_wrap]
  refine seg_wrap ?_
  unfold forIt
  refine wpAny_bind (wpAny_standAt (wpAny_bind (wpAny_mono h (fun x s₁ h₁ => wpAny_bind (wpAny_of_eq (hs x) (wpAny_bind (wpAny_standAt (wpAny_holding (wpAny_mono h₁ (fun it s₂ h₂ => ?_) fun _ _ e => e)))))) fun _ _ e => e)))
  exact seg_runOwn h₂
end
section
variable {prog : Program} {w : World} {A : Around} {R : GenEnd} {Y : Protocol} {n : Nat} {s₀ : Shared} {fs : List Frame} {s : Shared} {env : Env}
/-- what an exception in a loop's turn meets -/
def noted' (env : Env) (e : Value) : Sem PySem.Fin := (do noteFrame e env; theTreesLotGoes e : Sem Unit).wrap (fun _ => .raise e) .raise id id
def forNext (target : Expr) (it : Value) (env : Env) : Sem (Option Unit) := do
  standAt target.pos
  match ← (pyNext it).onRaise (fun _ => standAt { target.pos with line := 0 }) with
  | none => pure none
  | some v =>
    letOwnedTupleGo target it v
    assign target env v
    pure (some ())
theorem forTurn_eq (target : Expr) (it : Value) (body orelse : List Stmt) : forTurn target it body orelse env = forNext target it env >>= fun r => match r with
    | none => again (.block orelse env)
    | some _ => execs body env >>= fun f => match f with
      | .next | .cont => again (.forLoop target it body orelse env)
      | .brk => pure (.done .next)
      | .ret v => pure (.done (.ret v)) := by
  unfold forTurn forNext
  simp only [sem_assoc]
  congr 1
  funext _
  congr 1
  funext r
  cases r with
  | none => rfl
  | some v => simp only [sem_assoc]; rfl
theorem seg_forLoop {target : Expr} {it : Value} {body : List Stmt}
    (h : wpAny (model prog w) (A.over (.forLoop target it body [] env) fs) (pyNext it) (fun r s₁ => match r with
      | none => Seg (model prog w) A R Y n s₀ (.forLoop target it body [] env) (.pure (.again (.block [] env))) fs s₁
      | some v => wpAny (model prog w) (A.over (.forLoop target it body [] env) fs) (letOwnedTupleGo target it v) (fun _ s₂ => wpAny (model prog w) (A.over (.forLoop target it body [] env) fs) (assign target env v) (fun _ s₃ =>
          Seg (model prog w) A R Y n s₀ (.forLoop target it body [] env) ((execs body env).wrap (fun f => match f with
            | .next | .cont => .pure (.again (.forLoop target it body [] env))
            | .brk => .pure (.done .next)
            | .ret v => .pure (.done (.ret v))) (noted' env) id id) fs s₃) (fun x s' => Seg (model prog w) A R Y n s₀ (.forLoop target it body [] env) (noted' env x) fs s') s₂) (fun x s' => Seg (model prog w) A R Y n s₀ (.forLoop target it body [] env) (noted' env x) fs s') s₁)
      (fun x s' => Seg (model prog w) A R Y n s₀ (.forLoop target it body [] env) (noted' env x) fs s') s) :
    Seg (model prog w) A R Y n s₀ (.forLoop target it body [] env) ((model prog w).den (.forLoop target it body [] env)) fs s := by
  show Seg _ A R Y n s₀ _ ((forTurn target it body [] env).onRaise (fun x => do noteFrame x env; theTreesLotGoes x)) fs s
  have eN : (fun e => (do noteFrame e env; theTreesLotGoes e : Sem Unit).bind fun _ => (Sem.raise e : Sem PySem.Fin)) = noted' env := by
    funext e
    rw [Sem.bind_eq_wrap]
    rfl
  rw [Sem.onRaise_eq_wrap, eN, forTurn_eq, Sem.bind_eq_wrap', Sem.wrap_wrap]
  refine seg_wrap ?_
  unfold forNext
  refine wpAny_bind (wpAny_standAt (wpAny_bind (wpAny_onRaise (wpAny_mono h (fun r s₁ h₁ => ?_) fun _ _ h' => wpAny_standAt h'))))
  cases r with
  | none => exact wpAny_pure h₁
  | some v =>
    refine wpAny_bind (wpAny_mono h₁ (fun _ s₂ h₂ => ?_) fun _ _ h' => h')
    refine wpAny_bind (wpAny_mono h₂ (fun _ s₃ h₃ => ?_) fun _ _ h' => h')
    refine wpAny_pure ?_
    show Seg _ A R Y n s₀ _ ((execs body env >>= _).wrap _ _ _ _) fs s₃
    rw [Sem.bind_eq_wrap', Sem.wrap_wrap]
    exact Eq.mp (congrArg (fun t => Seg (model prog w) A R Y n s₀ (.forLoop target it body [] env) t fs s₃) (Sem.wrap_congr (execs body env) _ _ (fun f => by cases f <;> rfl) (fun e => rfl))) h₃
end
end NG
namespace NG
open PySem PySem.Spec PyProof.Rows L2 GenW
section
variable {X : Cx}
def tGFor (wi : TI) (g : TG) (tb : TGn) : TGn := fun D ys σ H => wi σ H fun J H1 => ∃ W : Nat → Nat → List V → L2.St → Hp → Prop, (∃ m, W 0 m ys σ H1) ∧ ∀ i m ys σ H, W i m ys σ H →
  (J.stop i H ∧ D.nx ys σ H) ∨ (J.go i H ∧ ∃ N : List V → L2.St → Hp → Prop, (∀ ys' σ' H', N ys' σ' H' → ∃ m', m' < m ∧ W (i + 1) m' ys' σ' H') ∧ ∀ x H', J.yld i H x H' → g x σ H' fun σ2 H2 => tb { D with nx := N, ct := N, bk := D.nx } ys σ2 H2)
theorem _root_.L2.GC.more {S : Addr} {ip ip' : List (Addr × Obj)} {A : Around} {c : Code} {fs : List Frame} {gd : Bool → Bool} (g : GC X S ip A c fs gd) (h : ∀ p ∈ ip', p.1 ≠ S) : GC X S ip' A c fs gd :=
  ⟨g.pn, h, g.apart, g.over, g.split, g.guard, g.gd⟩
theorem gs_for {tg iter : Expr} {body : List Stmt} {pos : Pos} {wi : TI} {gg : TG} {tb : TGn} (hp : PassesOwn (model X.prog X.w) X.A X.env X.xe) (hc : X.calm = true) (hi : PI X tg iter wi) (hg : PG X tg gg) (hb : GSs X body tb)
    (hs : ∀ x, foldedSetIterable iter X.env x = pure x := by intro _; rfl) : GS X (.For tg iter body [] pos) (tGFor wi gg tb) := by
  refine ⟨fun A S ip R n ys s₀ c fs K J gd lv s σ H D g hn k hI ht => ?_⟩
  refine seg_For ?_ hs
  rw [g.over]
  obtain ⟨acc, cc, r, I⟩ := hI
  refine wpAny_mono (hi.run _ s σ H _ I ht) (fun v s1 h1 => wpAny_mono h1 (fun itv s2 h2 p => ?_) fun x s' hx => k.exc n s₀ x s' hx) fun x s' hx => k.exc n s₀ x s' hx
  obtain ⟨it, fp, tn, Jt, H2, e, I2, T, st2, f2, W, ⟨m0, w0⟩, turn⟩ := h2
  subst e
  have gl := fun (kk : Result → Sem PySem.Fin) => gc_loop (k := kk) (c' := .forLoop tg (.ref it) body [] X.env) (l := lv []) (kp := []) (p := p) g rfl rfl
  have hSfp : ∀ b ∈ fp, b ≠ S := fun b hb z => (f2 b hb).2.2.2.2.2 (S, lstObj acc cc) (List.mem_append_right _ List.mem_cons_self) z.symm
  have stat : ∀ {H' : Hp} {acc' : Array Value} {cc' : Nat}, (∀ b ∈ fp, H' b = none) → ∀ b ∈ fp, FpOk X ((S, lstObj acc' cc') :: ip) H' b := fun {H' acc' cc'} hn b hb => by
    obtain ⟨_, a1, a2, a3, a4, a5⟩ := f2 b hb
    refine ⟨hn b hb, a1, a2, a3, a4, fun q hq => ?_⟩
    rcases List.mem_append.mp hq with z | z
    · exact a5 q (List.mem_append_left _ z)
    · rcases List.mem_cons.mp z with z | z
      · subst z; exact fun e => hSfp b hb e.symm
      · exact a5 q (List.mem_append_right _ (List.mem_cons_of_mem _ z))
  have loop : ∀ (m i n : Nat) (ys : List V) (s₀ s : Shared) (σ : L2.St) (H : Hp), n + ys.length = sizeLine → W i m ys σ H → GI X S ip ys σ H s → tn i s.heap → (∀ b ∈ fp, H b = none) →
      Seg (model X.prog X.w) A R (GY X S) n s₀ (.forLoop tg (.ref it) body [] X.env) ((model X.prog X.w).den (.forLoop tg (.ref it) body [] X.env))
        (.ret (fun r => ((match r with | .ok f => (.pure f : Sem Flow) | .error e => .raise e).onRaise (cameBack X.env)).wrap K J gd lv) none (gd false) (lv []) c p [] :: fs) s := by
    intro m
    induction m using Nat.strongRecOn with
    | ind m ih =>
      intro i n ys s₀ s σ H hn w hI st fr
      have ee : ∀ (n : Nat) (s₀ : Shared) (x : Value) (s' : Shared), X.xe x s' → Seg (model X.prog X.w) A R (GY X S) n s₀ (.forLoop tg (.ref it) body [] X.env)
          (noted' X.env x)
          (.ret (fun r => ((match r with | .ok f => (.pure f : Sem Flow) | .error e => .raise e).onRaise (cameBack X.env)).wrap K J gd lv) none (gd false) (lv []) c p [] :: fs) s' := fun n s₀ x s' hx => by
        refine seg_wrap ?_
        rw [(gl _).over]
        refine wpAny_bind (wpAny_mono (hp x s' hx) (fun _ s'' hcb => wpAny_theTreesLotGoes ?_) fun y s'' hcb => ?_)
        · exact seg_leaf (.error x) (seg_cameBack g k hcb)
        · exact seg_leaf (.error y) (seg_cameBack g k hcb)
      refine seg_forLoop ?_
      rw [(gl _).over]
      obtain ⟨acc, cc, r, I⟩ := hI
      rcases turn i m ys σ H w with ⟨stop, qn⟩ | ⟨go, N, hN, step⟩
      · refine wpAny_mono (T.done X rfl rfl rfl hc i _ s σ H X.xe I (stat fr) st stop) (fun rr s4 ⟨hr, I4⟩ => ?_) fun x s' hx => ee n s₀ x s' hx
        subst hr
        refine seg_again rfl ?_
        show Seg _ _ _ _ _ _ _ (.pure (.done .next)) _ _
        exact seg_leaf (.ok .next) (k.ok n ys s₀ s4 .next hn ⟨σ, H, ⟨acc, cc, r, I4⟩, qn⟩)
      · refine wpAny_mono (T.item X rfl rfl rfl hc i _ s σ H X.xe I (stat fr) st go) (fun rr s4 ⟨u, hr, h4⟩ => ?_) fun x s' hx => ee n s₀ x s' hx
        subst hr
        refine wpAny_mono h4 (fun _ s5 ⟨x, H5, I5, r5, y5, st5, fr5⟩ => ?_) fun x s' hx => ee n s₀ x s' hx
        have I5' := I5.pinned (stat fr5) (T.obj _ _ st5)
        refine wpAny_mono (hg.run _ s5 σ H5 x u _ I5' r5 (step x H5 y5)) (fun _ s6 ⟨σ6, H6, I6, q6⟩ => ?_) fun x s' hx => ee n s₀ x s' hx
        have hip' : ∀ q ∈ ip ++ pinsAt fp s5.heap, q.1 ≠ S := fun q hq => by
          rcases List.mem_append.mp hq with z | z
          · exact g.ip q z
          · exact hSfp q.1 (of_pinsAt z).1
        refine hb.run A S (ip ++ pinsAt fp s5.heap) R n ys s₀ _ _ _ _ id id s6 σ6 H6 { D with nx := N, ct := N, bk := D.nx } ((gl _).more hip') hn ⟨fun n' ys' s₀' s7 f hn' hs => ?_, fun n' s₀' x s3 hx => ee n' s₀' x s3 hx⟩ ⟨acc, cc, r, I6⟩ q6
        have again : ∀ {σ7 : L2.St} {H7 : Hp}, GI X S (ip ++ pinsAt fp s5.heap) ys' σ7 H7 s7 → GI X S ip ys' σ7 H7 s7 ∧ tn (i + 1) s7.heap ∧ (∀ b ∈ fp, H7 b = none) := fun {σ7 H7} hI7 => by
          obtain ⟨acc7, cc7, r7, I7⟩ := hI7
          have I7' : Inv X (((S, lstObj acc7 cc7) :: ip) ++ pinsAt fp s5.heap) σ7 H7 s7 := I7
          refine ⟨⟨acc7, cc7, r7, I7'.unpinned⟩, T.keep _ _ _ st5 fun b hb o e => (I7'.pin (b, o) (List.mem_append_right _ (List.mem_append_right _ (mem_pinsAt hb e)))).1, fun b hb => ?_⟩
          obtain ⟨o, e, d⟩ := T.obj _ _ st5 b hb
          exact (I7'.pin (b, o) (List.mem_append_right _ (List.mem_append_right _ (mem_pinsAt hb e)))).2.1
        cases f with
        | next =>
          obtain ⟨σ7, H7, I7, n7⟩ := hs
          obtain ⟨m', hm, w7⟩ := hN ys' σ7 H7 n7
          obtain ⟨a1, a2, a3⟩ := again I7
          exact seg_again rfl (ih m' hm (i + 1) n' ys' s₀' s7 σ7 H7 hn' w7 a1 a2 a3)
        | cont =>
          obtain ⟨σ7, H7, I7, n7⟩ := hs
          obtain ⟨m', hm, w7⟩ := hN ys' σ7 H7 n7
          obtain ⟨a1, a2, a3⟩ := again I7
          exact seg_again rfl (ih m' hm (i + 1) n' ys' s₀' s7 σ7 H7 hn' w7 a1 a2 a3)
        | brk =>
          obtain ⟨σ7, H7, I7, q7⟩ := hs
          exact seg_leaf (.ok .next) (k.ok n' ys' s₀' s7 .next hn' ⟨σ7, H7, (again I7).1, q7⟩)
        | ret v =>
          obtain ⟨x7, σ7, H7, I7, r7, q7⟩ := hs
          exact seg_leaf (.ok (.ret v)) (k.ok n' ys' s₀' s7 (.ret v) hn' ⟨x7, σ7, H7, (again I7).1, r7, q7⟩)
  exact loop m0 0 n ys s₀ s2 σ H2 hn w0 ⟨acc, cc, r, I2⟩ st2 fun b hb => (f2 b hb).1
end
end NG

set_option Elab.async false
set_option linter.all false
set_option maxRecDepth 100000
set_option maxHeartbeats 400000
/-! Sketch.walk -/
namespace NG
open PySem PySem.Spec PyProof.Rows L2 He
/-- a loop of a generator over a source -/
theorem gfor_src {α : Type} {J : It} {Hs : Hp → Prop} {R : Rl α} {bs : List α} {g : TG} {tb : TGn} {D : GEnds} {ys : List V} {σ : L2.St} {H1 : Hp}
    (S : Src J Hs R bs) (Pv : Nat → List V → L2.St → Hp → Prop) (h0 : Pv 0 ys σ H1) (hh : ∀ i ys σ H, Pv i ys σ H → Hs H)
    (turn : ∀ (i : Nat) (b : α) (x : V) (ys : List V) (σ : L2.St) (H H' : Hp), bs[i]? = some b → i < bs.length → Pv i ys σ H → Same H H' → R H' x b → g x σ H' fun σ2 H2 => tb { D with nx := Pv (i + 1), ct := Pv (i + 1), bk := D.nx } ys σ2 H2)
    (done : ∀ ys σ H, Pv bs.length ys σ H → D.nx ys σ H) :
    ∃ W : Nat → Nat → List V → L2.St → Hp → Prop, (∃ m, W 0 m ys σ H1) ∧ ∀ i m ys σ H, W i m ys σ H →
      (J.stop i H ∧ D.nx ys σ H) ∨ (J.go i H ∧ ∃ N : List V → L2.St → Hp → Prop, (∀ ys' σ' H', N ys' σ' H' → ∃ m', m' < m ∧ W (i + 1) m' ys' σ' H') ∧ ∀ x H', J.yld i H x H' → g x σ H' fun σ2 H2 => tb { D with nx := N, ct := N, bk := D.nx } ys σ2 H2) := by
  refine ⟨fun i m ys σ H => m = bs.length - i ∧ i ≤ bs.length ∧ Pv i ys σ H, ⟨bs.length, by simp, Nat.zero_le _, h0⟩, ?_⟩
  rintro i m ys σ H ⟨rfl, hi, p⟩
  have hs := hh i ys σ H p
  by_cases hlt : i < bs.length
  · refine .inr ⟨S.go i H hs hlt, Pv (i + 1), fun ys' σ' H' z => ⟨bs.length - (i + 1), by omega, rfl, hlt, z⟩, fun x H' yl => ?_⟩
    obtain ⟨b, hb, r, s'⟩ := S.yld i H x H' hs hlt yl
    exact turn i b x ys σ H H' hb hlt p s' r
  · have ei : i = bs.length := by omega
    subst ei
    exact .inl ⟨S.stop H hs, done ys σ H p⟩
variable {P : Program} {w : World} {K : Fg} {mg : Str → Option Value} {base : Heap}
theorem sc_SWalk : GScope ["self", "name"] ["self"] (defScope m_Sketch_walk) := ⟨rfl, rfl, rfl, by decide +kernel, rfl, by decide +kernel, by decide +kernel⟩
def spSWalk (K : Fg) : L2.SpG := fun vs H cont _ => ∃ x sk, vs = [x] ∧ SkR K H x sk ∧ (sk.map (·.1)).Nodup ∧ sk.length ≤ 1000 ∧ ∀ out H', Same H H' → Each (SdR K) H' out sk → cont out H'
def HasG (P : Program) (w : World) (K : Fg) (mg : Str → Option Value) (base : Heap) (k : Nat) (C m : Str) (ps : List Str) (sp : L2.SpG) : Prop :=
  ∃ fd, Meth K (ga K C) m (ma K (ga K C) m) ∧ GFn P w K mg base k (ma K (ga K C) m) fd ps sp ∧ Binds K fd ps []
theorem hasG_SWalk (e : Ev K mg) : HasG P w K mg base 1 "Sketch" "walk" ["self"] (spSWalk K) := by
  obtain ⟨fd, F⟩ := e.F_m_Sketch_walk
  have hb : Binds K fd ["self"] [] := F.bindsN fun _ _ _ _ _ _ us hl => match us, hl with | [_], _ => rfl
  obtain ⟨oc, od, dV, kV, doc, pm, an, cdv, ct, osl, rfl, lk, hcd, _, _⟩ := F.ex
  refine ⟨_, e.me_Sketch_walk, gfn_of lk hcd sc_SWalk (fun vs H Q E h => ?_) (fun A outer s H vs Q E pn hr h => ?_), hb⟩
  · obtain ⟨x, sk, rfl, _⟩ := h; rfl
  · obtain ⟨x, sk, rfl, ⟨a, rfl, dx, d, kvs, ha, hd, hk, he⟩, hn, hl, q⟩ := h
    have hu := hu_of hr
    refine ⟨_, gss_cons (gs_for owns_gcx rfl (pi_list (pe_callTy (call_listD rfl) rfl e.b_list boot_list (pa_cons (pe_fld (pv 0) rfl) pa_nil))) (pg_name (i := 1) sc_SWalk.nd rfl (Or.inl rfl))
      (gss_cons (gs_yield (pe_tup (pa_cons (pv 1) (pa_cons (pe_ix ix_tup (pe_dget hu (pe_fld (pv 0) rfl) (pv 1) (fun _ _ => rfl)) pe_int (fun _ _ => rfl)) (pa_cons (pe_ix ix_tup (pe_dget hu (pe_fld (pv 0) rfl) (pv 1) (fun _ _ => rfl)) pe_int (fun _ _ => rfl)) pa_nil))))) gss_nil)) gss_nil, ?_⟩
    refine ⟨_, rfl, a, _, dx, _, _, rfl, ha, e.cl_Sketch, e.n_Sketch_own_seeds, f1_look _ _, d, kvs, rfl, .inl hd, fun p hp => ?_⟩
    rw [keys_vals hk]
    have s1 := same_upd (o := .lst ((sk.map (·.1)).map V.str)) hp
    refine ⟨p, rfl, ⟨_, SqL.of upd_same⟩, ?_⟩
    refine gfor_src (src_list (R := isS) (H0 := upd H p (.lst ((sk.map (·.1)).map V.str))) mn_isS (Each.map V.str fun _ _ => rfl))
      (fun i ys σ H2 => ∃ x2, σ = [some (.ref a), x2] ∧ Same (upd H p (.lst ((sk.map (·.1)).map V.str))) H2 ∧ Each (SdR K) H2 ys (sk.take i)) ⟨none, rfl, Same.refl _, .nil⟩ (fun i ys σ H2 ⟨_, _, s2, _⟩ => ⟨s2, s2.seq (SqL.of upd_same)⟩) ?_ ?_
    · rintro i nm y ys σ H2 H3 hb hi ⟨x2, rfl, s2, hys⟩ s3 rfl
      rw [List.getElem?_map] at hb
      obtain ⟨m, hm, rfl⟩ := Option.map_eq_some_iff.mp hb
      have s13 := s1.trans (s2.trans s3)
      have hlen := hys.length
      rw [List.length_take] at hlen
      obtain ⟨v, hv, T, y1, y2, rfl, hT, hy1, hy2⟩ := sk_at hk (he.mono mn_En s13) hn hm
      have ha3 := s13 _ _ ha
      have hd3 := s13 _ _ hd
      refine ⟨by rw [sizeLine_eq]; omega, ?_⟩
      refine ⟨_, rfl, _, rfl, a, _, dx, _, _, rfl, ha3, e.cl_Sketch, e.n_Sketch_own_seeds, f1_look _ _, _, rfl, d, .ref T, rfl, .inl ⟨kvs, Sum.inr m.1, .inl hd3, rfl, hv.symm⟩, T, _, 0, _, rfl, rfl, SqT.of hT, rfl, ?_⟩
      refine ⟨_, rfl, a, _, dx, _, _, rfl, ha3, e.cl_Sketch, e.n_Sketch_own_seeds, f1_look _ _, _, rfl, d, .ref T, rfl, .inl ⟨kvs, Sum.inr m.1, .inl hd3, rfl, hv.symm⟩, T, _, 1, _, rfl, rfl, SqT.of hT, rfl, ?_⟩
      refine ⟨(by show 3 ≤ sizeLine; decide), fun U hU => ?_⟩
      have s4 := same_upd (o := .tup [.str m.1, y1, y2]) hU
      refine ⟨_, rfl, s2.trans (s3.trans s4), ?_⟩
      rw [take_snoc hm]
      exact (hys.mono mn_Sd (s3.trans s4)).append (.cons ⟨U, y1, y2, rfl, upd_same, mn_Rt _ _ _ _ s4 hy1, mn_Note _ _ _ _ s4 hy2⟩ .nil)
    · rintro ys σ H2 ⟨x2, rfl, s2, hys⟩
      rw [List.length_map, List.take_length] at hys
      exact q ys H2 (s1.trans s2) hys
end NG

set_option Elab.async false
set_option linter.all false
set_option maxRecDepth 100000
set_option maxHeartbeats 400000
/-! two sorted lists of the same texts are one -/
namespace NG
open PySem PySem.Spec PyProof.Rows L2
theorem ltc_iff (a b : List Nat) : ltCps a b = false ↔ b ≤ a := by
  rw [ltCps_eq, decide_eq_false_iff_not]
  exact Iff.rfl
theorem rising_pw : ∀ (p : Str) (l : List Str), risingS p l = true → (p :: l).Pairwise fun a b => a.cps.toList ≤ b.cps.toList
  | p, [], _ => List.pairwise_singleton _ _
  | p, x :: r, h => by
    unfold risingS at h
    rw [Bool.and_eq_true] at h
    have h1 : p.cps.toList ≤ x.cps.toList := (ltc_iff _ _).mp (by simpa using h.1)
    have h2 := rising_pw x r h.2
    refine List.pairwise_cons.mpr ⟨fun y hy => ?_, h2⟩
    rcases List.mem_cons.mp hy with rfl | hy
    · exact h1
    · exact List.le_trans h1 ((List.pairwise_cons.mp h2).1 y hy)
theorem sorted_pw {l : List Str} (h : sortedS l = true) : l.Pairwise fun a b => a.cps.toList ≤ b.cps.toList := by
  cases l with
  | nil => exact .nil
  | cons p r => exact rising_pw p r h
theorem str_extS {a b : Str} (h : a.cps.toList = b.cps.toList) : a = b := by
  cases a; cases b
  simp at h
  rw [h]
theorem perm_sorted : ∀ {l m : List Str}, l.Perm m → (l.Pairwise fun a b => a.cps.toList ≤ b.cps.toList) → (m.Pairwise fun a b => a.cps.toList ≤ b.cps.toList) → l = m
  | [], m, p, _, _ => p.nil_eq
  | a :: l, [], p, _, _ => by have := p.length_eq; simp at this
  | a :: l, b :: m, p, h1, h2 => by
    obtain ⟨x1, y1⟩ := List.pairwise_cons.mp h1
    obtain ⟨x2, y2⟩ := List.pairwise_cons.mp h2
    have eab : a = b := by
      have ha : a ∈ b :: m := p.mem_iff.mp List.mem_cons_self
      have hb : b ∈ a :: l := p.mem_iff.mpr List.mem_cons_self
      rcases List.mem_cons.mp ha with e | ha
      · exact e
      · rcases List.mem_cons.mp hb with e | hb
        · exact e.symm
        · exact str_extS (List.le_antisymm (x1 b hb) (x2 a ha))
    subst eab
    rw [perm_sorted (List.Perm.cons_inv p) y1 y2]
theorem sorted_eq {l m : List Str} (p : l.Perm m) (h1 : sortedS l = true) (h2 : sortedS m = true) : l = m := perm_sorted p (sorted_pw h1) (sorted_pw h2)
end NG

set_option Elab.async false
set_option linter.all false
set_option maxRecDepth 100000
set_option maxHeartbeats 400000
/-! Kept.copy -/
namespace NG
open PySem PySem.Spec PyProof.Rows L2 He
variable {P : Program} {w : World} {K : Fg} {mg : Str → Option Value} {base : Heap}
theorem sc_KCopy : FnScope ["self", "found"] ["self"] (defScope m_Kept_copy) := ⟨rfl, rfl, rfl, by decide +kernel, rfl, by decide +kernel, by decide +kernel⟩
def spKCopy (K : Fg) : Sp := fun vs H Q _ => ∃ (a s : Addr) (sk : List SkE) (m : SkE) (ns : List Int) (ru : V), vs = [.ref a] ∧ KpA K H a s m.1 ns ru ∧ SkA K H s sk ∧ (sk.map (·.1)).Nodup ∧ m ∈ sk ∧ keyS m.1 = true ∧ m.2.2.length ≤ 100 ∧
  ∀ b H', H b = none → Same H H' → KpA K H' b s m.1 ns ru → Q (.ref b) H'
theorem hasM_KCopy (e : Ev K mg) : HasM P w K mg base 6 "Kept" "copy" ["self"] (spKCopy K) := by
  obtain ⟨fd, F⟩ := e.F_m_Kept_copy
  obtain ⟨d1, ds1, M1, m1, G1, v1, b1⟩ := hasC_Kept (P := P) (w := w) (base := base) e
  refine ⟨fd, e.me_Kept_copy, ?_, F.bindsN fun _ _ _ _ _ _ us hl => match us, hl with | [_], _ => rfl⟩
  refine F.okD sc_KCopy (fun vs H Q E h => ?_) (fun cdv A outer s H vs Q E hr h => ?_)
  · obtain ⟨a, s, sk, m, ns, ru, rfl, _⟩ := h; rfl
  · obtain ⟨a, sa, sk, m, ns, ru, rfl, ⟨dx, st, sh, h1, h2, h3⟩, hsk, hn, hm, hkey, hlm, q⟩ := h
    refine ⟨_, pss_cons (ps_set (i := 1) sc_KCopy.nd rfl (Or.inl rfl) (pe_make M1 G1 hr rfl m1 b1 v1 pass0 (pa_cons (pe_fld (pv 0) rfl) (pa_cons (pe_fld (pv 0) rfl) pa_nil))))
      (pss_cons (ps_fld (pv 1) (pe_fld (pv 0) rfl) rfl)
      (pss_one (ps_ret (pv 1)))), ?_⟩
    refine ⟨_, rfl, a, _, dx, _, _, rfl, h1, e.cl_Kept, e.n_Kept_own_sketch, kfs_sketch _ _ _, _, rfl, a, _, dx, _, _, rfl, h1, e.cl_Kept, e.n_Kept_own_seed, kfs_seed _ _ _, fun x xd nx nd hne => ?_⟩
    have sM := made_mono (C := ga K "Kept") (dx := xd) nx nd
    refine ⟨x, xd, sa, sk, m, rfl, mn_SkA sM hsk, hn, hm, hkey, hlm, upd_same, fun H1 bx hK => ⟨rfl, ?_⟩⟩
    have s1 := made_same nx nd bx
    obtain ⟨dy, st', sh', k1, k2, k3⟩ := hK
    refine ⟨_, rfl, a, _, dx, _, _, rfl, s1 _ _ h1, e.cl_Kept, e.n_Kept_own_state, kfs_state _ _ _, ?_⟩
    refine ⟨_, rfl, x, _, dy, _, rfl, k1, e.cl_Kept, e.n_Kept_own_state, kfs_len _ _ _, ?_⟩
    rw [kfs_put]
    have sF : Same H (upd H1 x (.ins (ga K "Kept") dy (kfs sa m.1 st))) := Same.butN s1 nx But.upd
    exact ⟨_, rfl, q x _ nx sF ⟨dy, st, sh, upd_same, sF _ _ h2, sF _ _ h3⟩⟩
end NG

set_option Elab.async false
set_option linter.all false
set_option maxRecDepth 100000
set_option maxHeartbeats 400000
/-! zip(a, b, strict=True) of two tuples: one draw of a strict zip -/
namespace NG
open PySem
section
variable {prog : Program} {w : World} {A : Around} {E : Value → Shared → Prop} {s : Shared}
/-- a draw of a strict zip's part: an item -/
theorem orEnd_item {it l : Addr} {i : Nat} {items : Array Value} {x : Value} {Q : Option Value → Shared → Prop} (hit : s.heap.IsTupleIter it l i) (hl : s.heap.IsTuple l items) (hx : items[i]? = some x)
    (hQ : ∀ h', h'.IsTupleIter it l (i + 1) → Heap.SameBut it s.heap h' → Q (some x) { s with heap := h' }) : wpAny (model prog w) A (Builtin.SmallTypes.nextOrEnd (.ref it)) Q E s := by
  unfold Builtin.SmallTypes.nextOrEnd
  exact wpAny_bind (wpAny_attempt (RZ.nextOf_tuple_item hit hl hx fun h' a b => wpAny_pure (hQ h' a b)))
/-- a draw of a strict zip's part: the end -/
theorem orEnd_end {it l : Addr} {i : Nat} {items : Array Value} {Q : Option Value → Shared → Prop} (hh : A.handled = none) (hit : s.heap.IsTupleIter it l i) (hl : s.heap.IsTuple l items) (hx : items[i]? = none)
    (hQ : ∀ h', Heap.ExtBut it s.heap h' → Q none { s with heap := h' }) : wpAny (model prog w) A (Builtin.SmallTypes.nextOrEnd (.ref it)) Q E s := by
  unfold Builtin.SmallTypes.nextOrEnd
  refine wpAny_bind (wpAny_attempt (RZ.nextOf_tuple_end hh hit hl hx fun h' e a ⟨o, ho, hc⟩ => ?_))
  refine wpAny_bind (wpAny_isInstance (T := "StopIteration") (b := true) ⟨o, ho, hc⟩ isSubtype_stop ?_)
  exact wpAny_pure (hQ h' a)
/-- a strict zip object -/
abbrev IsZipS (h : Heap) (z TI TO : Addr) (f0 : Value) : Prop := h.get? z = some { cls := .type "zip", dict := none, data := .fields #[f0, .bool false, .bool true, .ref TI, .ref TO], slots := #[] }
theorem szip_item {z TI TO i1 i2 l1 l2 : Addr} {k1 k2 : Nat} {xs ys : Array Value} {x y a b : Value} {Q : Value → Shared → Prop} (D : ZipApart z TI TO i1 i2 l1 l2)
    (hz : IsZipS s.heap z TI TO .none) (hTI : IsPair s.heap TI (.ref i1) (.ref i2)) (hTO : IsPair s.heap TO a b)
    (h1 : s.heap.IsTupleIter i1 l1 k1) (h2 : s.heap.IsTupleIter i2 l2 k2) (hl1 : s.heap.IsTuple l1 xs) (hl2 : s.heap.IsTuple l2 ys) (hx : xs[k1]? = some x) (hy : ys[k2]? = some y)
    (hQ : ∀ h', IsZipS h' z TI TO (rawInt s.heap.objs.size) → IsPair h' TO x y → h'.IsTupleIter i1 l1 (k1 + 1) → h'.IsTupleIter i2 l2 (k2 + 1) → IsPair h' s.heap.objs.size x y → h'.objs.size = s.heap.objs.size + 1 →
      (∀ c o, c ≠ z → c ≠ TO → c ≠ i1 → c ≠ i2 → s.heap.get? c = some o → h'.get? c = some o) → Q (.ref s.heap.objs.size) { s with heap := h' }) :
    wpAny (model prog w) A (Builtin.«zip.__next__» ⟨[.ref z], []⟩) (fun fin s' => ∃ v, fin = .done (.ret v) ∧ Q v s') E s := by
  show wpAny _ _ (field (.ref z) 2 >>= _) _ _ _
  refine wpAny_bind (wpAny_field hz rfl (x := .bool true) rfl ?_)
  show wpAny _ _ (field (.ref z) 3 >>= _) _ _ _
  refine wpAny_bind (wpAny_field hz rfl (x := .ref TI) rfl ?_)
  refine wpAny_bind (wpAny_seqItems hTI rfl ?_)
  show wpAny _ _ (Builtin.SmallTypes.ownedTupleIsFree (.ref z) >>= _) _ _ _
  refine wpAny_bind ?_
  unfold Builtin.SmallTypes.ownedTupleIsFree
  refine wpAny_bind (wpAny_field hz rfl (x := .none) rfl (wpAny_pure ?_))
  simp only [if_true]
  refine wpAny_bind (wpAny_rule (wpAny_bind (wpAny_field hz rfl (x := .ref TO) rfl (wpAny_bind (wpAny_setField_rec hz (by simp) fun g1 z1 b1 => ?_)))))
  replace z1 : IsZipS g1 z TI TO .ellipsis := z1
  refine wpAny_bind ?_
  simp only [List.zipIdx_cons, List.zipIdx_nil, List.forIn_cons, List.forIn_nil]
  refine wpAny_bind (wpAny_bind (wpAny_onRaise ?_))
  show wpAny _ _ (Builtin.SmallTypes.nextOrEnd (.ref i1)) _ _ _
  refine orEnd_item (h1.extBut b1.extBut D.i1z) (hl1.extBut b1.extBut D.l1z) hx fun g2 i2' b2 => ?_
  have o2 : IsPair g2 TO a b := b2.extBut _ _ D.TOi1 (b1.extBut _ _ D.TOz hTO)
  refine wpAny_bind (wpAny_seqItems o2 rfl (wpAny_bind (wpAny_updateSeq_pair o2 fun g3 o3 b3 => wpAny_bind (wpAny_letGo (wpAny_pure ?_)))))
  replace o3 : IsPair g3 TO x b := o3
  refine wpAny_bind (wpAny_bind (wpAny_onRaise ?_))
  show wpAny _ _ (Builtin.SmallTypes.nextOrEnd (.ref i2)) _ _ _
  refine orEnd_item (((h2.extBut b1.extBut D.i2z).extBut b2.extBut D.i12.symm).extBut b3.extBut D.TOi2.symm) (((hl2.extBut b1.extBut D.l2z).extBut b2.extBut D.l2i1).extBut b3.extBut D.l2TO) hy fun g4 j2 b4 => ?_
  have o4 : IsPair g4 TO x b := b4.extBut _ _ D.TOi2 o3
  refine wpAny_bind (wpAny_seqItems o4 rfl (wpAny_bind (wpAny_updateSeq_pair o4 fun g5 o5 b5 => wpAny_bind (wpAny_letGo (wpAny_pure (wpAny_pure ?_))))))
  replace o5 : IsPair g5 TO x y := o5
  refine wpAny_bind (wpAny_seqItems o5 rfl (wpAny_bind (wpAny_newTuple ?_)))
  have hsz : g5.objs.size = s.heap.objs.size := by rw [b5.1, b4.1, b3.1, b2.1, b1.1]
  have z5 : IsZipS g5 z TI TO .ellipsis := b5.extBut _ _ D.TOz.symm (b4.extBut _ _ D.i2z.symm (b3.extBut _ _ D.TOz.symm (b2.extBut _ _ D.i1z.symm z1)))
  have kp : ∀ c o, c ≠ z → c ≠ TO → c ≠ i1 → c ≠ i2 → s.heap.get? c = some o → g5.get? c = some o := fun c o c1 c2 c3 c4 e => b5.extBut _ _ c2 (b4.extBut _ _ c4 (b3.extBut _ _ c2 (b2.extBut _ _ c3 (b1.extBut _ _ c1 e))))
  have p1 : g5.IsTupleIter i1 l1 (k1 + 1) := ((i2'.extBut b3.extBut D.TOi1.symm).extBut b4.extBut D.i12).extBut b5.extBut D.TOi1.symm
  have p2 : g5.IsTupleIter i2 l2 (k2 + 1) := j2.extBut b5.extBut D.TOi2.symm
  have hzlt : z < g5.objs.size := Heap.lt_size z5
  show wpAny _ _ (Builtin.SmallTypes.ownedTupleHandOut (.ref z) (.ref g5.objs.size) >>= _) _ _ _
  refine wpAny_bind ?_
  unfold Builtin.SmallTypes.ownedTupleHandOut
  have z6 : IsZipS (g5.push { cls := .type "tuple", data := .seq #[x, y] }) z TI TO .ellipsis := Heap.get?_push_of_some _ z5
  refine wpAny_bind (wpAny_setField_rec z6 (by simp) fun g7 z7 b7 => ?_)
  replace z7 : IsZipS g7 z TI TO (rawInt g5.objs.size) := z7
  refine wpAny_setField_rec z7 (by simp) fun g8 z8 b8 => ?_
  replace z8 : IsZipS g8 z TI TO (rawInt g5.objs.size) := z8
  have up : ∀ c o, c ≠ z → g5.get? c = some o → g8.get? c = some o := fun c o c1 e => b8.extBut _ _ c1 (b7.extBut _ _ c1 (Heap.get?_push_of_some _ e))
  have t8 : IsPair g8 g5.objs.size x y := b8.extBut _ _ (Nat.ne_of_gt hzlt) (b7.extBut _ _ (Nat.ne_of_gt hzlt) (Heap.get?_push_size _ rfl))
  have s8 : g8.objs.size = g5.objs.size + 1 := by rw [b8.1, b7.1, Heap.size_push]
  rw [hsz] at z8 t8 s8
  refine wpAny_pure ⟨_, rfl, ?_⟩
  show Q (.ref g5.objs.size) _
  rw [hsz]
  exact hQ g8 z8 (up _ _ D.TOz o5) (p1.at fun o e => up _ o D.i1z e) (p2.at fun o e => up _ o D.i2z e) t8 s8 fun c o c1 c2 c3 c4 e => up c o c1 (kp c o c1 c2 c3 c4 e)
theorem szip_end {z TI TO i1 i2 l1 l2 : Addr} {k1 k2 : Nat} {xs ys : Array Value} {a b : Value} {Q : Fin → Shared → Prop} (hh : A.handled = none) (D : ZipApart z TI TO i1 i2 l1 l2)
    (hz : IsZipS s.heap z TI TO .none) (hTI : IsPair s.heap TI (.ref i1) (.ref i2)) (hTO : IsPair s.heap TO a b)
    (h1 : s.heap.IsTupleIter i1 l1 k1) (h2 : s.heap.IsTupleIter i2 l2 k2) (hl1 : s.heap.IsTuple l1 xs) (hl2 : s.heap.IsTuple l2 ys) (hx : xs[k1]? = none) (hy : ys[k2]? = none)
    (hE : ∀ h' e, (∀ c o, c ≠ z → c ≠ TO → c ≠ i1 → c ≠ i2 → s.heap.get? c = some o → h'.get? c = some o) → (∃ o, h'.get? e = some o ∧ o.cls = .type "StopIteration") → E (.ref e) { s with heap := h' }) :
    wpAny (model prog w) A (Builtin.«zip.__next__» ⟨[.ref z], []⟩) Q E s := by
  show wpAny _ _ (field (.ref z) 2 >>= _) _ _ _
  refine wpAny_bind (wpAny_field hz rfl (x := .bool true) rfl ?_)
  show wpAny _ _ (field (.ref z) 3 >>= _) _ _ _
  refine wpAny_bind (wpAny_field hz rfl (x := .ref TI) rfl ?_)
  refine wpAny_bind (wpAny_seqItems hTI rfl ?_)
  show wpAny _ _ (Builtin.SmallTypes.ownedTupleIsFree (.ref z) >>= _) _ _ _
  refine wpAny_bind ?_
  unfold Builtin.SmallTypes.ownedTupleIsFree
  refine wpAny_bind (wpAny_field hz rfl (x := .none) rfl (wpAny_pure ?_))
  simp only [if_true]
  refine wpAny_bind (wpAny_rule (wpAny_bind (wpAny_field hz rfl (x := .ref TO) rfl (wpAny_bind (wpAny_setField_rec hz (by simp) fun g1 z1 b1 => ?_)))))
  replace z1 : IsZipS g1 z TI TO .ellipsis := z1
  refine wpAny_bind ?_
  simp only [List.zipIdx_cons, List.zipIdx_nil, List.forIn_cons, List.forIn_nil]
  refine wpAny_bind (wpAny_bind (wpAny_onRaise ?_))
  show wpAny _ _ (Builtin.SmallTypes.nextOrEnd (.ref i1)) _ _ _
  refine orEnd_end hh (h1.extBut b1.extBut D.i1z) (hl1.extBut b1.extBut D.l1z) hx fun g2 b2 => ?_
  have z2 : IsZipS g2 z TI TO .ellipsis := b2 _ _ D.i1z.symm z1
  refine wpAny_bind (wpAny_setField_rec z2 (by simp) fun g3 z3 b3 => ?_)
  refine wpAny_bind (wpAny_bind ?_)
  simp only [List.drop_succ_cons, List.drop_zero, List.zipIdx_cons, List.zipIdx_nil, List.forIn_cons, List.forIn_nil]
  refine wpAny_bind (wpAny_bind ?_)
  refine orEnd_end hh (((h2.extBut b1.extBut D.i2z).extBut b2 D.i12.symm).extBut b3.extBut D.i2z) (((hl2.extBut b1.extBut D.l2z).extBut b2 D.l2i1).extBut b3.extBut D.l2z) hy fun g4 b4 => ?_
  simp only [Option.isSome_none, Bool.false_eq_true, if_false]
  refine wpAny_pure (wpAny_pure (wpAny_bind (wpAny_rule ?_)))
  unfold Builtin.SmallTypes.stopIteration
  refine wpAny_bind ?_
  simp only [newExc, newTuple]
  refine wpAny_bind (wpAny_newObj_type ?_ (by size_fits))
  refine wpAny_bind (m := firstArgMember _ _) (wpAny_of_eq (a := Value.none) (by first | rfl | (simp only [firstArgMember]; rfl)) ?_)
  refine wpAny_newObj_type ?_ (by size_fits)
  simp only [raiseNew]
  refine wpAny_bind (wpAny_handled ?_)
  rw [hh]
  refine wpAny_bind (wpAny_pure (wpAny_throw ?_))
  exact hE _ _ (fun c o c1 c2 c3 c4 e => Heap.get?_push_of_some _ (Heap.get?_push_of_some _ (b4 _ _ c4 (b3.extBut _ _ c1 (b2 _ _ c3 (b1.extBut _ _ c1 e)))))) ⟨_, Heap.get?_push_size _ rfl, rfl⟩
theorem pyNext_szip_item {z TI TO i1 i2 l1 l2 : Addr} {k1 k2 : Nat} {xs ys : Array Value} {x y a b : Value} {Q : Option Value → Shared → Prop} (D : ZipApart z TI TO i1 i2 l1 l2)
    (hz : IsZipS s.heap z TI TO .none) (hTI : IsPair s.heap TI (.ref i1) (.ref i2)) (hTO : IsPair s.heap TO a b)
    (h1 : s.heap.IsTupleIter i1 l1 k1) (h2 : s.heap.IsTupleIter i2 l2 k2) (hl1 : s.heap.IsTuple l1 xs) (hl2 : s.heap.IsTuple l2 ys) (hx : xs[k1]? = some x) (hy : ys[k2]? = some y)
    (hQ : ∀ h', IsZipS h' z TI TO (rawInt s.heap.objs.size) → IsPair h' TO x y → h'.IsTupleIter i1 l1 (k1 + 1) → h'.IsTupleIter i2 l2 (k2 + 1) → IsPair h' s.heap.objs.size x y → h'.objs.size = s.heap.objs.size + 1 →
      (∀ c o, c ≠ z → c ≠ TO → c ≠ i1 → c ≠ i2 → s.heap.get? c = some o → h'.get? c = some o) → Q (some (.ref s.heap.objs.size)) { s with heap := h' }) : wpAny (model prog w) A (pyNext (.ref z)) Q E s := by
  have hT : s.TypeIs (.ref z) "zip" := ⟨_, hz, rfl⟩
  unfold pyNext
  exact wpAny_bind (wpAny_attempt (wpAny_callSpecial?_slot (name := Str.ofString "__next__") hT F.slot_zip_next
    (wpAny_call_entry F.slot_zip_next hT F.entry_zip_next (szip_item D hz hTI hTO h1 h2 hl1 hl2 hx hy fun h' a1 a2 a3 a4 a5 a6 a7 => wpAny_pure (hQ h' a1 a2 a3 a4 a5 a6 a7)) (F.args_zip_next_1 _))))
theorem pyNext_szip_end {z TI TO i1 i2 l1 l2 : Addr} {k1 k2 : Nat} {xs ys : Array Value} {a b : Value} {Q : Option Value → Shared → Prop} (hh : A.handled = none) (D : ZipApart z TI TO i1 i2 l1 l2)
    (hz : IsZipS s.heap z TI TO .none) (hTI : IsPair s.heap TI (.ref i1) (.ref i2)) (hTO : IsPair s.heap TO a b)
    (h1 : s.heap.IsTupleIter i1 l1 k1) (h2 : s.heap.IsTupleIter i2 l2 k2) (hl1 : s.heap.IsTuple l1 xs) (hl2 : s.heap.IsTuple l2 ys) (hx : xs[k1]? = none) (hy : ys[k2]? = none)
    (hQ : ∀ h', (∀ c o, c ≠ z → c ≠ TO → c ≠ i1 → c ≠ i2 → s.heap.get? c = some o → h'.get? c = some o) → Q none { s with heap := h' }) : wpAny (model prog w) A (pyNext (.ref z)) Q E s := by
  have hT : s.TypeIs (.ref z) "zip" := ⟨_, hz, rfl⟩
  unfold pyNext
  refine wpAny_bind (wpAny_attempt (wpAny_callSpecial?_slot (name := Str.ofString "__next__") hT F.slot_zip_next
    (wpAny_call_entry F.slot_zip_next hT F.entry_zip_next (szip_end hh D hz hTI hTO h1 h2 hl1 hl2 hx hy fun h' e hk he => ?_) (F.args_zip_next_1 _))))
  obtain ⟨o, ho, hc⟩ := he
  refine wpAny_bind (wpAny_isInstance (T := "StopIteration") (b := true) ⟨o, ho, hc⟩ isSubtype_stop ?_)
  exact wpAny_pure (hQ _ hk)
end
/-- what stands behind zip(a, b, strict=True) -/
abbrev zsH (h : Heap) (l1 l2 : Addr) : Heap := (RZ.zipTH4 h l1 l2).push { cls := .type "zip", data := .fields #[.none, .bool false, .bool true, .ref (RZ.zipTH2 h l1 l2).objs.size, .ref (RZ.zipTH3 h l1 l2).objs.size] }
theorem meets_szip_new (l1 l2 : Addr) (xs ys : Array Value) :
    Meets (Builtin.«zip.__new__» ⟨[.type "zip", .ref l1, .ref l2], [("strict", .bool true)]⟩) (fun _ R s => s.heap.IsTuple l1 xs ∧ s.heap.IsTuple l2 ys ∧ R (.ok (.ret (.ref (RZ.zipTH4 s.heap l1 l2).objs.size))) { s with heap := zsH s.heap l1 l2 }) :=
  .of_wp fun prog w A R s h => by
    obtain ⟨hp, g, d, tk, os⟩ := s
    obtain ⟨hl1, hl2, h⟩ := h
    have hsub := sub_zip
    have hL1 : Heap.IsTuple (Shared.heap ⟨hp, g, d, tk, os⟩) l1 xs := hl1
    have hL2 : Heap.IsTuple (Shared.heap ⟨hp.push { cls := .type "tuple_iterator", data := .fields #[.ref l1, .int 0 0] }, g, d, tk, os⟩) l2 ys := Heap.IsTuple.push hl2 _
    wp_walk using wpAny_pyIter_tuple hL1, wpAny_pyIter_tuple hL2
    exact ⟨_, rfl, h⟩
section
variable {prog : Program} {w : World} {A : Around} {E : Value → Shared → Prop} {s : Shared}
theorem letGo_szip {elts : List Expr} {x1} {pos : Pos} {z TI TO T : Addr} {Q : Unit → Shared → Prop} (hz : IsZipS s.heap z TI TO (rawInt T)) (hQ : ∀ h', IsZipS h' z TI TO .none → Heap.SameBut z s.heap h' → Q () { s with heap := h' }) :
    wpAny (model prog w) A (letOwnedTupleGo (.Tuple elts x1 pos) (.ref z) (.ref T)) Q E s := by
  unfold letOwnedTupleGo
  refine wpAny_bind (wpAny_load hz ?_)
  show wpAny _ _ (if (["enumerate", "zip", "dict_itemiterator", "dict_reverseitemiterator", "odict_iterator", "itertools.zip_longest", "itertools.pairwise"].contains "zip" &&
      (#[rawInt T, .bool false, .bool true, .ref TI, .ref TO] : Array Value)[0]? == some (rawInt T)) = true then _ else _) Q E s
  rw [if_pos (by simp)]
  refine wpAny_bind (wpAny_rule ?_)
  show wpAny _ _ (setField (.ref z) 0 .none) Q E s
  exact wpAny_setField_rec hz (by simp) fun h' hz' hs' => hQ h' hz' hs'
theorem pyIter_szip {z TI TO : Addr} {f0 : Value} {Q : Value → Shared → Prop} (hz : IsZipS s.heap z TI TO f0) (h : Q (.ref z) s) : wpAny (model prog w) A (pyIter (.ref z)) Q E s := by
  have hT : s.TypeIs (.ref z) "zip" := ⟨_, hz, rfl⟩
  refine wpAny_pyIter_slot hT F.slot_zip_iter (wpAny_call_entry F.slot_zip_iter hT F.entry_zip_iter ?_ (F.args_zip_iter_1 _))
  show wpAny _ _ (ret (.ref z)) _ _ s
  exact wpAny_pure ⟨_, rfl, "zip", _, hT, F.slot_zip_next.lookup, h⟩
end
end NG

set_option Elab.async false
set_option linter.all false
set_option maxRecDepth 100000
set_option maxHeartbeats 400000
/-! the turns of a strict zip of two tuples -/
namespace NG
open PySem PySem.Spec PyProof.Rows L2 He
/-- as the items stand at each turn; it ends only where both end -/
def ItzS (K : PySem.W.Frag) (a b : Addr) : It :=
  ⟨fun i H => ∃ (xs ys : List V) (x y : V), SqT K H a xs ∧ SqT K H b ys ∧ xs[i]? = some x ∧ ys[i]? = some y,
    fun i H v H' => ∃ T x y, v = .ref T ∧ H T = none ∧ H' = upd H T (.tup [x, y]) ∧ (∀ xs, SqT K H a xs → xs[i]? = some x) ∧ ∀ ys, SqT K H b ys → ys[i]? = some y,
    fun i H => ∃ xs ys : List V, SqT K H a xs ∧ SqT K H b ys ∧ xs.length ≤ i ∧ ys.length ≤ i⟩
theorem turn_szip {P : Program} {w : World} {K : PySem.W.Frag} {elts : List Expr} {kk : Nat} {tpos : Pos} {a b z TI TO i1 i2 : Addr} (D : ZipApart z TI TO i1 i2 a b) :
    Turn P w K (.Tuple elts kk tpos) (ItzS K a b) [z, TI, TO, i1, i2] z (fun i h => IsZipS h z TI TO .none ∧ IsPair h TI (.ref i1) (.ref i2) ∧ (∃ x y, IsPair h TO x y) ∧ h.IsTupleIter i1 a i ∧ h.IsTupleIter i2 b i) where
  mem := by simp
  obj := fun i h st c hc => by
    obtain ⟨hz, hTI, ⟨x, y, hTO⟩, ⟨o1, e1, _, d1⟩, ⟨o2, e2, _, d2⟩⟩ := st
    have e' : c = z ∨ c = TI ∨ c = TO ∨ c = i1 ∨ c = i2 := by simpa using hc
    rcases e' with rfl | rfl | rfl | rfl | rfl
    · exact ⟨_, hz, fun v q => nomatch q⟩
    · exact ⟨_, hTI, fun v q => nomatch q⟩
    · exact ⟨_, hTO, fun v q => nomatch q⟩
    · exact ⟨o1, e1, fun v q => by rw [d1] at q; cases q⟩
    · exact ⟨o2, e2, fun v q => by rw [d2] at q; cases q⟩
  keep := fun i h h' st k => by
    obtain ⟨hz, hTI, ⟨x, y, hTO⟩, h1, h2⟩ := st
    exact ⟨k z (by simp) _ hz, k TI (by simp) _ hTI, ⟨x, y, k TO (by simp) _ hTO⟩, h1.at fun o q => k i1 (by simp) o q, h2.at fun o q => k i2 (by simp) o q⟩
  item := by
    intro X hP hw hK hc i pins s σ H E I hf st hg
    subst hP hw hK
    obtain ⟨hz, hTI, ⟨x0, y0, hTO⟩, h1, h2⟩ := st
    obtain ⟨xs, ys, x, y, hqx, hqy, hx, hy⟩ := hg
    obtain ⟨its, rv, p, _⟩ := I.tuple hqx
    obtain ⟨its2, rv2, p2, _⟩ := I.tuple hqy
    obtain ⟨u, hu, ru⟩ := rv.get hx
    obtain ⟨u2, hu2, ru2⟩ := rv2.get hy
    have hzl : z < s.heap.objs.size := Heap.lt_size hz
    refine pyNext_szip_item D hz hTI hTO h1 h2 p p2 (x := u) (y := u2) (by simpa using hu) (by simpa using hu2) fun h' z' TO' h1' h2' hT hsz hk => ?_
    refine ⟨_, rfl, letGo_szip (s := { s with heap := h' }) z' fun h'' z'' sb => ?_⟩
    have hT2 : h''.get? s.heap.objs.size = some { cls := .type "tuple", data := .seq #[u, u2] } := (sb.2 _ (Nat.ne_of_gt hzl)).trans hT
    have new : ObjOk X.prog X.w (upd H s.heap.objs.size (.tup [x, y])) h'' s.heap.objs.size (.tup [x, y]) :=
      ⟨by show 2 ≤ sizeLine; decide, [u, u2], .cons ru (.cons ru2 .nil), ⟨_, hT2, rfl, _, rfl⟩⟩
    have I1 : Inv X pins σ (upd H s.heap.objs.size (.tup [x, y])) { s with heap := h'' } :=
      I.turnedNew (t' := s.toks) (ch := [z, TI, TO, i1, i2]) (fun c o hb q => (sb.2 c (fun q' => hb (by simp [q']))).trans (hk c o (fun q' => hb (by simp [q'])) (fun q' => hb (by simp [q'])) (fun q' => hb (by simp [q'])) (fun q' => hb (by simp [q'])) q)) hf (Nat.le_refl _) new
    refine ⟨.ref s.heap.objs.size, _, I1, rfl, ⟨_, x, y, rfl, I.hok.fresh (Nat.le_refl _), rfl, fun l hl => by rw [I.tuple_inj hl hqx]; exact hx, fun l hl => by rw [I.tuple_inj hl hqy]; exact hy⟩, ⟨z'', (sb.2 _ D.TIz).trans (hk _ _ D.TIz D.TITO D.TIi1 D.TIi2 hTI), ⟨u, u2, (sb.2 _ D.TOz).trans TO'⟩, h1'.at fun o q => (sb.2 _ D.i1z).trans q, h2'.at fun o q => (sb.2 _ D.i2z).trans q⟩, fun c hcm => ?_⟩
    have hlt : c < s.heap.objs.size := by
      have e' : c = z ∨ c = TI ∨ c = TO ∨ c = i1 ∨ c = i2 := by simpa using hcm
      rcases e' with q | q | q | q | q
      · rw [q]; exact hzl
      · rw [q]; exact Heap.lt_size hTI
      · rw [q]; exact Heap.lt_size hTO
      · rw [q]; obtain ⟨_, e1, _⟩ := h1; exact Heap.lt_size e1
      · rw [q]; obtain ⟨_, e2, _⟩ := h2; exact Heap.lt_size e2
    rw [upd_ne (Nat.ne_of_lt hlt)]
    exact (hf c hcm).1
  done := by
    intro X hP hw hK hc i pins s σ H E I hf st hg
    subst hP hw hK
    obtain ⟨hz, hTI, ⟨x0, y0, hTO⟩, h1, h2⟩ := st
    obtain ⟨xs, ys, hqx, hqy, e1, e2⟩ := hg
    obtain ⟨its, rv, p, _⟩ := I.tuple hqx
    obtain ⟨its2, rv2, p2, _⟩ := I.tuple hqy
    have l1 := rv.length
    have l2 := rv2.length
    exact pyNext_szip_end (I.ok.hd hc) D hz hTI hTO h1 h2 p p2 (by simp; omega) (by simp; omega) fun h' hk => ⟨rfl, I.turnedL (t' := s.toks) (ch := [z, TI, TO, i1, i2]) (fun c o hb q =>
      hk c o (fun q' => hb (by simp [q'])) (fun q' => hb (by simp [q'])) (fun q' => hb (by simp [q'])) (fun q' => hb (by simp [q'])) q) hf⟩
  self := fun A i s Q E st h => pyIter_szip st.1 h
end NG

set_option Elab.async false
set_option linter.all false
set_option maxRecDepth 100000
set_option maxHeartbeats 400000
/-! the call zip(a, b, strict=True) -/
namespace NG
open PySem
section
variable {prog : Program} {w : World} {A : Around} {E : Value → Shared → Prop} {s : Shared}
theorem typeCall_szip (a b c : Value) : checkTypeCall "zip" ⟨[a, b], [(Str.ofString "strict", c)]⟩ = pure () := by kernel_rfl
theorem newCall_szip (a b c : Value) : checkBuiltinCall "zip.__new__" ⟨[.type "zip", a, b], [(Str.ofString "strict", c)]⟩ = pure () := by kernel_rfl
theorem args_szip (a b c d : Value) : argsOk "object.__init__" ⟨[a, b, c], [(Str.ofString "strict", d)]⟩ := by unfold argsOk; kernel_rfl
theorem call_szip {l1 l2 : Addr} {xs ys : Array Value} {Q : Value → Shared → Prop} (hl1 : s.heap.IsTuple l1 xs) (hl2 : s.heap.IsTuple l2 ys)
    (h : ∀ h', IsZipS h' (s.heap.objs.size + 4) (s.heap.objs.size + 2) (s.heap.objs.size + 3) .none → IsPair h' (s.heap.objs.size + 2) (.ref s.heap.objs.size) (.ref (s.heap.objs.size + 1)) →
      IsPair h' (s.heap.objs.size + 3) .none .none → h'.IsTupleIter s.heap.objs.size l1 0 → h'.IsTupleIter (s.heap.objs.size + 1) l2 0 → h'.objs.size = s.heap.objs.size + 5 →
      (∀ c o, s.heap.get? c = some o → h'.get? c = some o) → Q (.ref (s.heap.objs.size + 4)) { s with heap := h' }) :
    wpAny (model prog w) A (call (.type "zip") [.ref l1, .ref l2] [("strict", .bool true)]) Q E s := by
  refine callType_newKw F.called_zip (by decide) (typeCall_szip _ _ _) (newCall_szip _ _ _) (fun obj => args_szip obj _ _ _) F.entry_zip_new (meets_szip_new l1 l2 xs ys) ⟨hl1, hl2, ?_⟩
  have z1 : (RZ.zipTH1 s.heap l1).objs.size = s.heap.objs.size + 1 := Heap.size_push ..
  have z2 : (RZ.zipTH2 s.heap l1 l2).objs.size = s.heap.objs.size + 2 := by rw [Heap.size_push, z1]
  have z3 : (RZ.zipTH3 s.heap l1 l2).objs.size = s.heap.objs.size + 3 := by rw [Heap.size_push, z2]
  have z4 : (RZ.zipTH4 s.heap l1 l2).objs.size = s.heap.objs.size + 4 := by rw [Heap.size_push, z3]
  have z5 : (zsH s.heap l1 l2).objs.size = s.heap.objs.size + 5 := by rw [Heap.size_push, z4]
  have g5 : (zsH s.heap l1 l2).get? (RZ.zipTH4 s.heap l1 l2).objs.size = some _ := Heap.get?_push_size _ rfl
  have g4 : (zsH s.heap l1 l2).get? (RZ.zipTH3 s.heap l1 l2).objs.size = some _ := Heap.get?_push_of_some _ (Heap.get?_push_size _ rfl)
  have g3 : (zsH s.heap l1 l2).get? (RZ.zipTH2 s.heap l1 l2).objs.size = some _ := Heap.get?_push_of_some _ (Heap.get?_push_of_some _ (Heap.get?_push_size _ rfl))
  have g2 : (zsH s.heap l1 l2).get? (RZ.zipTH1 s.heap l1).objs.size = some _ := Heap.get?_push_of_some _ (Heap.get?_push_of_some _ (Heap.get?_push_of_some _ (Heap.get?_push_size _ rfl)))
  have g1 : (zsH s.heap l1 l2).get? s.heap.objs.size = some _ := Heap.get?_push_of_some _ (Heap.get?_push_of_some _ (Heap.get?_push_of_some _ (Heap.get?_push_of_some _ (Heap.get?_push_size _ rfl))))
  show _ ∧ _
  rw [z2, z3, z4] at g5
  rw [z1, z2] at g3
  rw [z3] at g4
  rw [z1] at g2
  rw [z4]
  exact ⟨⟨_, g5, rfl⟩, h _ g5 g3 g4 ⟨_, g1, rfl, rfl⟩ ⟨_, g2, rfl, rfl⟩ z5 fun c o x =>
    Heap.get?_push_of_some _ (Heap.get?_push_of_some _ (Heap.get?_push_of_some _ (Heap.get?_push_of_some _ (Heap.get?_push_of_some _ x))))⟩
end
end NG

set_option Elab.async false
set_option linter.all false
set_option maxRecDepth 100000
set_option maxHeartbeats 400000
/-! for x, y in zip(a, b, strict=True), a and b tuples -/
namespace NG
open PySem PySem.Spec PyProof.Rows L2 He
theorem callWith_typeK {M : Model} {A : Around} {E : Value → Shared → Prop} {s : Shared} {pos : Pos} {T : String} {args : List (Bool × Sem Value)} {keywords : List (Option Str × Sem Value)} {Q : Value → Shared → Prop}
    (hplain : args.any (·.1) = false) (hkw : keywords.any (·.1.isNone) = false) (h : wpAny M A (evalArgs (.type T) true args keywords) (fun a s₁ => wpAny M A (call (.type T) a.pos a.kw) Q E s₁) E s) :
    wpAny M A (callWith pos (.type T) [] args keywords) Q E s := by
  unfold callWith
  refine wpAny_bind (wpAny_holding (wpAny_mono h (fun a s₁ h₁ => wpAny_bind (wpAny_standAt ?_)) fun _ _ x => x))
  simp only [hplain, hkw, Bool.or_false]
  refine wpAny_bind (wpAny_pure ?_)
  exact wpAny_bind (wpAny_mono h₁ (fun r s₂ hr => wpAny_bind (wpAny_holding (wpAny_point (wpAny_pure hr)))) fun _ _ x => x)
/-- zip(a, b, strict=True) of two tuples of one length -/
def iZipS (K : PySem.W.Frag) (ta tk : TA) : TI := fun σ H R => ta σ H fun vs H1 => tk σ H1 fun zs H2 => ∃ a b xs ys, vs = [.ref a, .ref b] ∧ zs = [.bl true] ∧ SqT K H2 a xs ∧ SqT K H2 b ys ∧ R (ItzS K a b) H2
theorem pi_zipS {X : Cx} {e e2 : Expr} {kws : List Keyword} {ta tk : TA} {p pos tpos : Pos} {elts : List Expr} {kk : Nat} (hg : Gl X "zip") (hm : X.mg "zip" = none) (ha : PA X [e, e2] ta) (hk : PK X kws tk)
    (he : backTo pos (starEach [e, e2] X.env) = (false, eval e X.env) :: backTo pos (starEach [e2] X.env) := by rfl) (hpl : (backTo pos (starEach [e, e2] X.env)).any (·.1) = false := by rfl)
    (hall : (backToKw pos (keywordEach kws X.env)).all (·.1.isSome) = true := by rfl) (hnone : (backToKw pos (keywordEach kws X.env)).any (·.1.isNone) = false := by rfl) (hks : (backToKw pos (keywordEach kws X.env)).filterMap (·.1) = [Str.ofString "strict"] := by rfl) :
    PI X (.Tuple elts kk tpos) (.Call (.Name "zip" p) [e, e2] kws pos) (iZipS X.K ta tk) := by
  refine ⟨fun pins s σ H R I h => ?_⟩
  refine wpAny_Call_Name_kw (ld_blt I hg hm PyProof.Rows.boot_zip ?_ (by decide) (by decide))
  refine callWith_typeK hpl hnone ?_
  suffices hS : wpAny (model X.prog X.w) X.A (spliced (backTo pos (starEach [e, e2] X.env))) (fun us s1 => wpAny (model X.prog X.w) X.A (evalAll ((backToKw pos (keywordEach kws X.env)).map (·.2))) (fun ks s2 => wpAny (model X.prog X.w) X.A (call (.type "zip") us (((backToKw pos (keywordEach kws X.env)).filterMap (·.1)).zip ks)) (fun v s3 => wpAny (model X.prog X.w) X.A (pyIter v) (PIE X pins σ (.Tuple elts kk tpos) R) X.xe s3) X.xe s2) X.xe s1) X.xe s by
    rw [he] at hS ⊢
    exact evalArgs_kw hall hS
  · refine thn (ha.run pos pins s σ H _ I h) fun us s1 ⟨vs, H1, I1, r1, q1⟩ => ?_
    refine thn (hk.run pos pins s1 σ H1 _ I1 q1) fun ws s2 ⟨zs, H2, I2, r2, q2⟩ => ?_
    obtain ⟨a, b, xs, ys, rfl, rfl, hqx, hqy, q⟩ := q2
    obtain ⟨w1, rfl, rb⟩ := r2.one
    cases rb
    cases r1 with
    | cons r rr =>
      cases rr with
      | cons r' rr =>
        cases rr
        cases r
        cases r'
        rw [hks]
        have fresh5 : ∀ c, c ∈ [s2.heap.objs.size + 4, s2.heap.objs.size + 2, s2.heap.objs.size + 3, s2.heap.objs.size, s2.heap.objs.size + 1] → FpOk X pins H2 c := fun c hcm => by
          have e' : c = s2.heap.objs.size + 4 ∨ c = s2.heap.objs.size + 2 ∨ c = s2.heap.objs.size + 3 ∨ c = s2.heap.objs.size ∨ c = s2.heap.objs.size + 1 := by simpa using hcm
          have hle : s2.heap.objs.size ≤ c := by
            rcases e' with z | z | z | z | z
            · rw [z]; exact Nat.le_add_right _ _
            · rw [z]; exact Nat.le_add_right _ _
            · rw [z]; exact Nat.le_add_right _ _
            · rw [z]; exact Nat.le_refl _
            · rw [z]; exact Nat.le_add_right _ _
          exact I2.fpOk hle (I2.hok.fresh hle)
        obtain ⟨its, rv, p1, _⟩ := I2.tuple hqx
        obtain ⟨its2, rv2, p2, _⟩ := I2.tuple hqy
        obtain ⟨o1, ho1, _⟩ := id p1
        obtain ⟨o2, ho2, _⟩ := id p2
        refine call_szip (show s2.heap.IsTuple a its.toArray from p1) (show s2.heap.IsTuple b its2.toArray from p2) fun h' hz hTI hTO h1 h2 hsz hk => pyIter_szip hz ?_
        have I3 : Inv X pins σ H2 { s2 with heap := h' } := I2.kept (t' := s2.toks) hk
        exact ⟨s2.heap.objs.size + 4, [s2.heap.objs.size + 4, s2.heap.objs.size + 2, s2.heap.objs.size + 3, s2.heap.objs.size, s2.heap.objs.size + 1], _, _, H2, rfl, I3, turn_szip (PySem.W.ktu_apart s2.heap.objs.size a b (Heap.lt_size ho1) (Heap.lt_size ho2)), ⟨hz, hTI, ⟨_, _, hTO⟩, h1, h2⟩, fresh5, q⟩
/-- strict zip of two tuples of one length -/
theorem src_zipS {α β : Type} {R : Rl α} {S : Rl β} (hR : Mn R) (hS : Mn S) {K : PySem.W.Frag} {a b : Addr} {xs ys : List V} {as : List α} {bs : List β} {H0 : Hp} (e1 : Each R H0 xs as) (e2 : Each S H0 ys bs) (hl : as.length = bs.length) :
    Src (ItzS K a b) (fun H => Same H0 H ∧ SqT K H a xs ∧ SqT K H b ys) (isP2 R S) (as.zip bs) where
  keep := fun _ _ s h => ⟨h.1.trans s, s.tup h.2.1, s.tup h.2.2⟩
  go := fun i H h hi => by
    have l1 := e1.length; have l2 := e2.length
    rw [List.length_zip] at hi
    have h1 : i < xs.length := by omega
    have h2 : i < ys.length := by omega
    exact ⟨xs, ys, xs[i], ys[i], h.2.1, h.2.2, List.getElem?_eq_getElem h1, List.getElem?_eq_getElem h2⟩
  stop := fun H h => by
    have l1 := e1.length; have l2 := e2.length
    refine ⟨xs, ys, h.2.1, h.2.2, ?_, ?_⟩ <;> rw [List.length_zip] <;> omega
  yld := fun i H v H' h hi y => by
    obtain ⟨T, x, z, rfl, nT, rfl, y1, y2⟩ := y
    have s := same_upd (H := H) (p := T) (o := .tup [x, z]) nT
    obtain ⟨p, hp, r1⟩ := e1.get (y1 xs h.2.1)
    obtain ⟨q, hq, r2⟩ := e2.get (y2 ys h.2.2)
    refine ⟨(p, q), ?_, ⟨T, x, z, rfl, upd_same, hR _ _ _ _ (h.1.trans s) r1, hS _ _ _ _ (h.1.trans s) r2⟩, s⟩
    rw [List.getElem?_zip_eq_some]
    exact ⟨hp, hq⟩
end NG

set_option Elab.async false
set_option linter.all false
set_option maxRecDepth 100000
set_option maxHeartbeats 400000
/-! the plain law: shown numbers are linear in the table -/
namespace NG
open PySem PySem.Spec PyProof.Rows L2 He
theorem atR_none {r : Row} {k : Str} (h : k ∉ r.map (·.1)) : atR r k = 0 := by unfold atR; rw [getR_none h]; rfl
theorem atR_cons (p : Str × Int) (r : Row) (k : Str) : atR (p :: r) k = if p.1 = k then p.2 else atR r k := by
  unfold atR getR
  rw [List.find?_cons]
  by_cases h : p.1 = k
  · rw [decide_eq_true h, if_pos h]; rfl
  · rw [decide_eq_false h, if_neg h]
theorem atR_addR : ∀ (o t : Row) (k : Str), (o.map (·.1)).Nodup → atR (addR t o) k = atR t k + atR o k
  | [], t, k, _ => by
    show atR t k = atR t k + 0
    omega
  | p :: o, t, k, h => by
    obtain ⟨h1, h2⟩ := List.nodup_cons.mp h
    show atR (addR (putR t p.1 (atR t p.1 + p.2)) o) k = _
    rw [atR_addR o _ k h2, atR_put, atR_cons]
    by_cases hk : k = p.1
    · subst hk
      rw [if_pos rfl, if_pos rfl, atR_none h1]
      omega
    · rw [if_neg hk, if_neg fun z => hk z.symm]
theorem dotR_add (row : Row) {t o : Row} (h : (o.map (·.1)).Nodup) : dotR row (addR t o) = dotR row t + dotR row o := by
  unfold dotR
  induction row with
  | nil => rfl
  | cons p r ih =>
    simp only [List.map_cons, List.sum_cons]
    rw [ih, atR_addR o t p.1 h, Int.mul_add]
    omega
/-- item by item -/
def addL (a b : List Int) : List Int := (a.zip b).map fun p => p.1 + p.2
theorem shownR_add (rows : List Row) {t o : Row} (h : (o.map (·.1)).Nodup) : shownR rows (addR t o) = addL (shownR rows t) (shownR rows o) := by
  unfold shownR addL
  induction rows with
  | nil => rfl
  | cons r l ih =>
    simp only [List.map_cons, List.zip_cons_cons]
    rw [ih, dotR_add r h]
theorem shownR_nil (rows : List Row) : shownR rows [] = List.replicate rows.length 0 := by
  unfold shownR
  induction rows with
  | nil => rfl
  | cons r l ih =>
    rw [List.map_cons, ih, List.length_cons, List.replicate_succ]
    congr 1
    unfold dotR
    induction r with
    | nil => rfl
    | cons p q ih2 =>
      rw [List.map_cons, List.sum_cons, ih2]
      show p.2 * 0 + 0 = 0
      omega
/-- the table counts only by its numbers -/
theorem dotR_congr (row : Row) {t t' : Row} (h : ∀ k, atR t k = atR t' k) : dotR row t = dotR row t' := by
  unfold dotR
  congr 1
  refine List.map_congr_left fun p _ => ?_
  rw [h]
theorem shownR_congr (rows : List Row) {t t' : Row} (h : ∀ k, atR t k = atR t' k) : shownR rows t = shownR rows t' := by
  unfold shownR
  refine List.map_congr_left fun r _ => dotR_congr r h
theorem addR_nodup : ∀ (o t : Row), (t.map (·.1)).Nodup → ((addR t o).map (·.1)).Nodup
  | [], t, h => h
  | p :: o, t, h => by
    refine addR_nodup o (putR t p.1 (atR t p.1 + p.2)) ?_
    rw [putR_keys]
    split
    · exact h
    · rename_i hn
      exact List.nodup_append.mpr ⟨h, by simp, fun x hx y hy e => hn (by simp at hy; rw [← hy, ← e]; exact hx)⟩
end NG

set_option Elab.async false
set_option linter.all false
set_option maxRecDepth 100000
set_option maxHeartbeats 400000
/-! kept rows show what their rows show -/
namespace NG
open PySem PySem.Spec PyProof.Rows L2 He
theorem getR_nodup {r : Row} (hn : (r.map (·.1)).Nodup) {p : Str × Int} (hp : p ∈ r) : getR r p.1 = some p.2 := by
  induction r with
  | nil => simp at hp
  | cons q l ih =>
    obtain ⟨h1, h2⟩ := List.nodup_cons.mp hn
    unfold getR
    rw [List.find?_cons]
    rcases List.mem_cons.mp hp with rfl | hp
    · rw [decide_eq_true rfl]; rfl
    · have : ¬ q.1 = p.1 := fun z => h1 (List.mem_map.mpr ⟨p, hp, z.symm⟩)
      rw [decide_eq_false this]
      exact ih h2 hp
theorem nodup_of_map {α β : Type} {f : α → β} : ∀ {l : List α}, (l.map f).Nodup → l.Nodup
  | [], _ => List.nodup_nil
  | a :: l, h => by
    obtain ⟨h1, h2⟩ := List.nodup_cons.mp h
    exact List.nodup_cons.mpr ⟨fun z => h1 (List.mem_map.mpr ⟨a, z, rfl⟩), nodup_of_map h2⟩
theorem kept_perm {r r' : Row} (hn : (r.map (·.1)).Nodup) (hk : KeptOf r r') : r'.Perm (r.filter fun p => decide (p.2 ≠ 0)) := by
  refine (List.perm_ext_iff_of_nodup (nodup_of_map hk.1) ((nodup_of_map hn).filter _)).mpr fun p => ?_
  rw [List.mem_filter, decide_eq_true_eq]
  constructor
  · intro hp
    obtain ⟨h1, h2⟩ := hk.2.2.1 p hp
    exact ⟨getR_of h2, h1⟩
  · rintro ⟨hp, h0⟩
    have hg := getR_nodup hn hp
    have hat : atR r p.1 = p.2 := by unfold atR; rw [hg]; rfl
    obtain ⟨q, hq, e⟩ := List.mem_map.mp (hk.2.2.2 p.1 (by rw [hat]; exact h0))
    obtain ⟨h1, h2⟩ := hk.2.2.1 q hq
    rw [e, hg] at h2
    have e2 : p.2 = q.2 := Option.some.inj h2
    have : p = q := Prod.ext e.symm e2
    rw [this]; exact hq
theorem dot_filter (r t : Row) : dotR (r.filter fun p => decide (p.2 ≠ 0)) t = dotR r t := by
  unfold dotR
  induction r with
  | nil => rfl
  | cons p l ih =>
    rw [List.filter_cons]
    by_cases h : p.2 = 0
    · rw [if_neg (by simp [h]), ih, List.map_cons, List.sum_cons, h]
      omega
    · rw [if_pos (by simp [h]), List.map_cons, List.map_cons, List.sum_cons, List.sum_cons, ih]
theorem sum_perm {l m : List Int} (h : l.Perm m) : l.sum = m.sum := by
  induction h with
  | nil => rfl
  | cons x _ ih => rw [List.sum_cons, List.sum_cons, ih]
  | swap x y l => simp only [List.sum_cons]; omega
  | trans _ _ h1 h2 => exact h1.trans h2
theorem kept_dot {r r' : Row} (hn : (r.map (·.1)).Nodup) (hk : KeptOf r r') (t : Row) : dotR r' t = dotR r t := by
  rw [← dot_filter r t]
  unfold dotR
  exact sum_perm ((kept_perm hn hk).map _)
theorem kept_shown {t : Row} : ∀ {rows n : List Row}, (∀ r ∈ rows, (r.map (·.1)).Nodup) → Paired KeptOf rows n → shownR n t = shownR rows t
  | _, _, _, .nil => rfl
  | _, _, h, .cons g gs => by
    show dotR _ t :: shownR _ t = dotR _ t :: shownR _ t
    rw [kept_dot (h _ List.mem_cons_self) g, kept_shown (fun r hr => h r (List.mem_cons_of_mem _ hr)) gs]
end NG

set_option Elab.async false
set_option linter.all false
set_option maxRecDepth 100000
set_option maxHeartbeats 400000
/-! Kept.put_more, add, change -/
namespace NG
open PySem PySem.Spec PyProof.Rows L2 He
variable {P : Program} {w : World} {K : Fg} {mg : Str → Option Value} {base : Heap}
abbrev nKPut : List Str := ["self", "numbers", "shown", "one", "other"]
theorem sc_KPut : FnScope nKPut ["self", "numbers"] (defScope m_Kept_put_more) := ⟨rfl, rfl, rfl, by decide +kernel, rfl, by decide +kernel, by decide +kernel⟩
def spKPut (K : Fg) : Sp := fun vs H Q _ => ∃ (a T s : Addr) (nm : Str) (ns ms : List Int) (ru : V), vs = [.ref a, .ref T] ∧ KpA K H a s nm ns ru ∧ SqT K H T (ms.map V.int) ∧ ns.length = ms.length ∧ ns.length ≤ 100 ∧
  ∀ H', But a H H' → KpA K H' a s nm (addL ns ms) ru → Q .non H'
theorem hasM_KPut (e : Ev K mg) : HasM P w K mg base 3 "Kept" "put_more" ["self", "numbers"] (spKPut K) := by
  obtain ⟨fd, F⟩ := e.F_m_Kept_put_more
  obtain ⟨d1, p1, G1, b1⟩ := hasP_shown (P := P) (w := w) (base := base) e
  obtain ⟨d2, p2, G2, b2⟩ := hasP_rule (P := P) (w := w) (base := base) e
  refine ⟨fd, e.me_Kept_put_more, ?_, F.bindsN fun _ _ _ _ _ _ us hl => match us, hl with | [_, _], _ => rfl⟩
  refine F.okD sc_KPut (fun vs H Q E h => ?_) (fun cdv A outer s H vs Q E hr h => ?_)
  · obtain ⟨a, T, s, nm, ns, ms, ru, rfl, _⟩ := h; rfl
  · obtain ⟨a, U, sa, nm, ns, ms, ru, rfl, hK, hU, hl, hlm, q⟩ := h
    refine ⟨_, pss_cons (ps_set (i := 2) sc_KPut.nd rfl (Or.inl rfl) (pe_callTy call_tuple_of rfl e.b_tuple boot_tuple (pa_cons (pe_lc (own := [("one", 3), ("other", 4)]) (g := gTup K 2 _) (tt := tYes) rfl sc_KPut.nd
        (pi_zipS rfl e.b_zip (pa_cons (pe_prop (pv 0) e.cl_Kept p1 G1 hr b1 .nil pass0 rfl) (pa_cons (pv 1) pa_nil)) (pk_cons pe_bl pk_nil)) (blkOk_by (N := nKPut) (sc := defScope m_Kept_put_more) (by decide +kernel))
        (fun _ _ _ _ _ => pg_tup rfl (pgs_cons (pg_name (i := 3) sc_KPut.nd rfl (Or.inl rfl)) (pgs_cons (pg_name (i := 4) sc_KPut.nd rfl (Or.inl rfl)) pgs_nil))) (fun _ _ _ _ _ => pts_nil)
        (fun _ _ _ _ _ => pe_op op_add (pv 3) (pv 4))) pa_nil)))
      (pss_one (ps_fld (pv 0) (pe_tup (pa_cons (pv 2) (pa_cons (pe_prop (pv 0) e.cl_Kept p2 G2 hr b2 .nil pass0 rfl) pa_nil))) rfl)), ?_⟩
    obtain ⟨dx, st, sh, h1, h2, h3⟩ := id hK
    refine ⟨_, rfl, a, dx, _, rfl, h1, a, sa, nm, ns, ru, rfl, hK, fun T hT => ?_⟩
    have hT := SqT.of (K := K) hT
    refine ⟨_, rfl, T, U, _, _, rfl, rfl, hT, hU, fun D hD => ?_⟩
    refine lc_src (src_zipS mn_isI mn_isI (Each.map V.int fun _ _ => rfl) (Each.map V.int fun _ _ => rfl) hl) isI (fun p => p.1 + p.2) (fun _ => true) ⟨Same.refl _, hT, hU⟩ hD (small1000 (by rw [List.length_zip]; omega)) ?_ ?_
    · rintro i ⟨n, m⟩ x H2 acc Nx hb s2 _ ⟨W, y1, y2, rfl, hW, e1, e2⟩ hD2 hl2 _ _ kT
      obtain rfl := e1
      obtain rfl := e2
      refine ⟨W, _, rfl, SqT.of hW, rfl, _, _, rfl, _, _, rfl, rfl, rfl, tYes_of ?_⟩
      exact ⟨_, rfl, _, rfl, _, _, rfl, rfl, acc, hD2, hl2, kT rfl _ _ (Same.refl _) fun _ _ => rfl⟩
    · intro H2 ys s2 hy he
      have ey := (he H2 fun _ _ _ z => z).eq_map V.int (fun _ _ z => z)
      rw [filt] at ey
      refine ⟨D, _, rfl, .inl ⟨SqL.of hy, fun l hl' => ?_⟩⟩
      have s3 := s2.trans (same_upd (o := .tup ys) hl')
      refine ⟨_, rfl, _, rfl, a, dx, _, rfl, s3 _ _ h1, a, sa, nm, ns, ru, rfl, hK.mono s3, ?_⟩
      refine ⟨(by show 2 ≤ sizeLine; decide), fun st' hst => ?_⟩
      have s4 := s3.trans (same_upd (o := .tup [.ref l, ru]) hst)
      have ha4 := s4 _ _ h1
      refine ⟨_, rfl, a, _, dx, _, rfl, ha4, e.cl_Kept, e.n_Kept_own_state, kfs_len _ _ _, ?_⟩
      rw [kfs_put]
      have hsa : st' ≠ a := fun y => by subst y; rw [upd_same] at ha4; exact nomatch ha4
      have hla : l ≠ a := fun y => by subst y; have := s3 _ _ h1; rw [upd_same] at this; exact nomatch this
      have hls : l ≠ st' := fun y => by subst y; rw [upd_same] at hst; exact nomatch hst
      refine q _ ((But.of_same s4).trans But.upd) ⟨dx, st', l, upd_same, by rw [upd_ne hsa, upd_same], ?_⟩
      rw [upd_ne hla, upd_ne hls, upd_same, ey]
      rfl
end NG

set_option Elab.async false
set_option linter.all false
set_option maxRecDepth 100000
set_option maxHeartbeats 400000
/-! Kept.add, change -/
namespace NG
open PySem PySem.Spec PyProof.Rows L2 He
variable {P : Program} {w : World} {K : Fg} {mg : Str → Option Value} {base : Heap}
/-- a kept note of a seed of a sketch -/
structure KpOf (K : Fg) (H : Hp) (a s : Addr) (sk : List SkE) (m : SkE) (ns : List Int) (ru : V) : Prop where
  kp : KpA K H a s m.1 ns ru
  hsk : SkA K H s sk
  nd : (sk.map (·.1)).Nodup
  mem : m ∈ sk
  key : keyS m.1 = true
  sm : SmallN m.2.2
  len : ns.length = m.2.2.length
theorem KpOf.mono {H H' : Hp} {a s : Addr} {sk : List SkE} {m : SkE} {ns : List Int} {ru : V} (e : Same H H') (h : KpOf K H a s sk m ns ru) : KpOf K H' a s sk m ns ru :=
  ⟨h.kp.mono e, mn_SkA e h.hsk, h.nd, h.mem, h.key, h.sm, h.len⟩
theorem shownR_len (rows : List Row) (t : Row) : (shownR rows t).length = rows.length := by unfold shownR; rw [List.length_map]
theorem sc_KAdd : FnScope ["self", "table"] ["self", "table"] (defScope m_Kept_add) := ⟨rfl, rfl, rfl, by decide +kernel, rfl, by decide +kernel, by decide +kernel⟩
def spKAdd (K : Fg) : Sp := fun vs H Q _ => ∃ (a s : Addr) (y : V) (sk : List SkE) (m : SkE) (t : Row) (ns : List Int) (ru : V), vs = [.ref a, y] ∧ KpOf K H a s sk m ns ru ∧ TabR K H y t ∧ SmallT szT t ∧
  ∀ H', But a H H' → KpA K H' a s m.1 (addL ns (shownR m.2.2 t)) ru → Q .non H'
theorem hasM_KAdd (e : Ev K mg) : HasM P w K mg base 5 "Kept" "add" ["self", "table"] (spKAdd K) := by
  obtain ⟨fd, F⟩ := e.F_m_Kept_add
  obtain ⟨d1, M1, G1, b1⟩ := hasM_SShows (P := P) (w := w) (base := base) e
  obtain ⟨d2, M2, G2, b2⟩ := hasM_KPut (P := P) (w := w) (base := base) e
  refine ⟨fd, e.me_Kept_add, ?_, F.bindsN fun _ _ _ _ _ _ us hl => match us, hl with | [_, _], _ => rfl⟩
  refine F.okD sc_KAdd (fun vs H Q E h => ?_) (fun cdv A outer s H vs Q E hr h => ?_)
  · obtain ⟨a, s, y, sk, m, t, ns, ru, rfl, _⟩ := h; rfl
  · obtain ⟨a, sa, y, sk, m, t, ns, ru, rfl, hK, hy, hst, q⟩ := h
    have hr3 := hr.mono (show 3 ≤ 4 by decide)
    refine ⟨_, pss_cons (ps_if (pt_not (pt_val (pe_callB call_isi rfl e.b_isinstance boot_isinstance (pa_cons (pv 1) (pa_cons (pe_glob rfl e.g_Table (v := .ref (ga K "Table")) rfl) pa_nil))))) (pss_one ps_never) pss_nil)
      (pss_one (ps_expr (pe_meth (pv 0) e.cl_Kept M2 G2 hr3 b2 .nil pass0 (pa_cons (pe_meth (pe_fld (pv 0) rfl) e.cl_Sketch M1 G1 hr b1 .nil pass0 (pa_cons (pe_fld (pv 0) rfl) (pa_cons (pv 1) pa_nil))) pa_nil)))), ?_⟩
    obtain ⟨dx, st, sh, h1, h2, h3⟩ := id hK.kp
    obtain ⟨dy, d, kvs, hs1, _⟩ := id hK.hsk
    have hy0 := hy
    obtain ⟨b, rfl, dz, c, hb, _⟩ := hy0
    refine ⟨_, rfl, _, _, _, _, _, rfl, .own _, .base (e.ty_Table.ty hb), e.k_Table_Table, true, rfl, iteF ?_⟩
    refine ⟨_, rfl, a, dx, _, rfl, h1, kfs_no (by decide) (by decide) (by decide), _, rfl, a, _, dx, _, _, rfl, h1, e.cl_Kept, e.n_Kept_own_sketch, kfs_sketch _ _ _, sa, dy, _, rfl, hs1, f1_no (by decide),
      _, rfl, a, _, dx, _, _, rfl, h1, e.cl_Kept, e.n_Kept_own_seed, kfs_seed _ _ _, _, rfl, .ref sa, .ref b, sk, m, t, rfl, ⟨sa, rfl, hK.hsk⟩, hK.nd, hK.mem, hK.key, hy, hK.sm, hst, fun T H1 s1 hT => ?_⟩
    refine ⟨a, T, sa, m.1, ns, _, ru, rfl, hK.kp.mono s1, SqT.of hT, by rw [hK.len, shownR_len], by have := hK.sm.1; have := hK.len; omega, fun H2 b2 hK2 => ?_⟩
    exact q H2 ((But.of_same s1).trans b2) hK2
/-! ### change -/
theorem sc_KChange : FnScope ["self", "key", "number"] ["self", "key", "number"] (defScope m_Kept_change) := ⟨rfl, rfl, rfl, by decide +kernel, rfl, by decide +kernel, by decide +kernel⟩
def spKChange (K : Fg) : Sp := fun vs H Q _ => ∃ (a s : Addr) (k : Str) (n : Int) (sk : List SkE) (m : SkE) (ns : List Int) (ru : V), vs = [.ref a, .str k, .int n] ∧ KpOf K H a s sk m ns ru ∧ keyS k = true ∧ n.natAbs < 2 ^ szT ∧
  ∀ H', But a H H' → KpA K H' a s m.1 (addL ns (shownR m.2.2 [(k, n)])) ru → Q .non H'
theorem hasM_KChange (e : Ev K mg) : HasM P w K mg base 6 "Kept" "change" ["self", "key", "number"] (spKChange K) := by
  obtain ⟨fd, F⟩ := e.F_m_Kept_change
  obtain ⟨f1', d1, m1, G1, k1, b1⟩ := has_is_key (P := P) (w := w) (base := base) e
  obtain ⟨f2, d2, m2, G2, k2, b2⟩ := has_is_integer (P := P) (w := w) (base := base) e
  obtain ⟨d3, ds3, M3, m3, G3, v3, b3⟩ := hasC_Table (P := P) (w := w) (base := base) e
  obtain ⟨d4, M4, G4, b4⟩ := hasM_KAdd (P := P) (w := w) (base := base) e
  refine ⟨fd, e.me_Kept_change, ?_, F.bindsN fun _ _ _ _ _ _ us hl => match us, hl with | [_, _, _], _ => rfl⟩
  refine F.okD sc_KChange (fun vs H Q E h => ?_) (fun cdv A outer s H vs Q E hr h => ?_)
  · obtain ⟨a, s, k, n, sk, m, ns, ru, rfl, _⟩ := h; rfl
  · obtain ⟨a, sa, k, n, sk, m, ns, ru, rfl, hK, hkey, hn, q⟩ := h
    have hr1 := hr.mono (show 1 ≤ 5 by decide)
    have hr4 := hr.mono (show 4 ≤ 5 by decide)
    refine ⟨_, pss_cons (ps_if (pt_not (pt_val (pe_call G1 hr1 rfl m1 k1 b1 .nil pass0 (pa_cons (pv 1) pa_nil)))) (pss_one ps_never) pss_nil)
      (pss_cons (ps_if (pt_not (pt_val (pe_call G2 hr1 rfl m2 k2 b2 .nil pass0 (pa_cons (pv 2) pa_nil)))) (pss_one ps_never) pss_nil)
      (pss_one (ps_expr (pe_meth (pv 0) e.cl_Kept M4 G4 hr b4 .nil pass0 (pa_cons (pe_make M3 G3 hr4 rfl m3 b3 v3 pass0 (pa_cons (pe_disp (pps_cons (pv 1) (pv 2) pps_nil) (by rfl) (by rfl) (fun z => by cases z) (by decide)) pa_nil)) pa_nil))))), ?_⟩
    obtain ⟨dx, st, sh, h1, h2, h3⟩ := id hK.kp
    refine ⟨_, rfl, .str k, rfl, .inl ⟨k, rfl, Nat.le_trans (keyS_len hkey) (by decide), fun H1 s1 => ?_⟩⟩
    rw [hkey]
    refine ⟨true, rfl, iteF ?_⟩
    refine ⟨_, rfl, .int n, rfl, .inl ⟨n, rfl, true, rfl, iteF ?_⟩⟩
    refine ⟨_, rfl, a, dx, _, rfl, s1 _ _ h1, kfs_no (by decide) (by decide) (by decide), fun p hp => ?_⟩
    refine ⟨_, rfl, _, rfl, upd_same, [(Sum.inr k, .int n)], rfl, (by simp), ?_⟩
    rw [upd_upd]
    have e0 : mergeK [] [((Sum.inr k : Key), V.int n)] = rowKV [(k, n)] := rfl
    rw [e0]
    have s2 := s1.trans (same_upd (o := .dK (rowKV [(k, n)])) hp)
    refine fun x xd nx nd hne => ?_
    refine ⟨x, xd, .ref p, [(k, n)], rfl, ⟨p, rfl, (made_mono nx nd) _ _ upd_same⟩, ⟨by simp, by simp, fun z hz => by rw [List.mem_singleton] at hz; rw [hz]; exact hkey⟩, upd_same, fun H3 c r' b3 hx3 hc3 hk3 => ⟨rfl, ?_⟩⟩
    have s3 := s2.trans (made_same nx nd b3)
    refine ⟨a, sa, .ref x, sk, m, r', ns, ru, rfl, hK.mono s3, ⟨x, rfl, xd, c, hx3, hc3⟩, fun j => ?_, fun H4 b4 hK4 => ?_⟩
    · rw [hk3.2.1, atR_cons]
      split
      · exact hn
      · show (0 : Int).natAbs < _
        exact Nat.two_pow_pos _
    · rw [shownR_congr m.2.2 hk3.2.1] at hK4
      exact q H4 ((But.of_same s3).trans b4) hK4
end NG

set_option Elab.async false
set_option linter.all false
set_option maxRecDepth 100000
set_option maxHeartbeats 400000
/-! Kept.take_in, == -/
namespace NG
open PySem PySem.Spec PyProof.Rows L2 He
variable {P : Program} {w : World} {K : Fg} {mg : Str → Option Value} {base : Heap}
theorem sc_KTake : FnScope ["self", "other"] ["self", "other"] (defScope m_Kept_take_in) := ⟨rfl, rfl, rfl, by decide +kernel, rfl, by decide +kernel, by decide +kernel⟩
def spKTake (K : Fg) : Sp := fun vs H Q _ => ∃ (a b s s2 : Addr) (nm : Str) (ns ms : List Int) (ru ru2 : V), vs = [.ref a, .ref b] ∧ KpA K H a s nm ns ru ∧ KpA K H b s2 nm ms ru2 ∧ SkEq K s2 s H ∧ ns.length = ms.length ∧ ns.length ≤ 100 ∧
  ∀ H', But a H H' → KpA K H' a s nm (addL ns ms) ru → Q .non H'
theorem hasM_KTake (e : Ev K mg) : HasM P w K mg base 8 "Kept" "take_in" ["self", "other"] (spKTake K) := by
  obtain ⟨fd, F⟩ := e.F_m_Kept_take_in
  obtain ⟨d1, p1, G1, b1⟩ := hasP_seed (P := P) (w := w) (base := base) e
  obtain ⟨d2, p2, G2, b2⟩ := hasP_sketch (P := P) (w := w) (base := base) e
  obtain ⟨d3, p3, G3, b3⟩ := hasP_shown (P := P) (w := w) (base := base) e
  obtain ⟨d4, M4, G4, b4⟩ := hasM_SEq (P := P) (w := w) (base := base) e
  obtain ⟨d5, M5, G5, b5⟩ := hasM_KPut (P := P) (w := w) (base := base) e
  refine ⟨fd, e.me_Kept_take_in, ?_, F.bindsN fun _ _ _ _ _ _ us hl => match us, hl with | [_, _], _ => rfl⟩
  refine F.okD sc_KTake (fun vs H Q E h => ?_) (fun cdv A outer s H vs Q E hr h => ?_)
  · obtain ⟨a, b, s, s2, nm, ns, ms, ru, ru2, rfl, _⟩ := h; rfl
  · obtain ⟨a, b, sa, sb, nm, ns, ms, ru, ru2, rfl, hK, hK2, hSk, hl, hlm, q⟩ := h
    have hr2 := hr.mono (show 2 ≤ 7 by decide)
    have hr3 := hr.mono (show 3 ≤ 7 by decide)
    refine ⟨_, pss_cons (ps_if (PW.pt (pw_or (pt_not (pt_val (pe_callB call_isi rfl e.b_isinstance boot_isinstance (pa_cons (pv 1) (pa_cons (pe_glob rfl e.g_Kept (v := .ref (ga K "Kept")) rfl) pa_nil)))))
        (pw_or (pt_cmpR op_ne (pe_prop (pv 1) e.cl_Kept p1 G1 hr2 b1 .nil pass0 rfl) (pe_prop (pv 0) e.cl_Kept p1 G1 hr2 b1 .nil pass0 rfl) (nomark _))
        (pw_or1 (pt_cmpR (op_neO G4 hr e.ty_Sketch e.ne_Sketch M4.at_ M4.fn b4) (pe_prop (pv 1) e.cl_Kept p2 G2 hr2 b2 .nil pass0 rfl) (pe_prop (pv 0) e.cl_Kept p2 G2 hr2 b2 .nil pass0 rfl) (nomark _)))))) (pss_one ps_never) pss_nil)
      (pss_one (ps_expr (pe_meth (pv 0) e.cl_Kept M5 G5 hr3 b5 .nil pass0 (pa_cons (pe_prop (pv 1) e.cl_Kept p3 G3 hr2 b3 .nil pass0 rfl) pa_nil)))), ?_⟩
    obtain ⟨dx, st, sh, h1, h2, h3⟩ := id hK
    obtain ⟨dy, st2, sh2, k1, k2, k3⟩ := id hK2
    obtain ⟨s1, s2, ⟨dz, d, ks, ha, hd⟩, ⟨dw, d', ls, hb, hd'⟩, hal⟩ := id hSk
    refine ⟨_, rfl, _, _, _, _, _, rfl, .own _, .base (e.ty_Kept.ty k1), e.k_Kept_Kept, true, rfl, iteF ?_⟩
    refine ⟨_, rfl, b, dy, _, rfl, k1, b, sb, nm, ms, ru2, rfl, hK2, _, rfl, a, dx, _, rfl, h1, a, sa, nm, ns, ru, rfl, hK, rfl, _, rfl, ?_⟩
    rw [decide_eq_true (show V.str nm = V.str nm from rfl)]
    refine iteF ?_
    refine ⟨_, rfl, b, dy, _, rfl, k1, b, sb, nm, ms, ru2, rfl, hK2, _, rfl, a, dx, _, rfl, h1, a, sa, nm, ns, ru, rfl, hK, ?_⟩
    refine ⟨sb, sa, _, _, _, _, rfl, rfl, ha, hb, sb, sa, rfl, hSk, fun H1 s01 => ⟨true, rfl, false, rfl, iteF ?_⟩⟩
    refine ⟨_, rfl, a, dx, _, rfl, s01 _ _ h1, kfs_no (by decide) (by decide) (by decide), _, rfl, b, dy, _, rfl, s01 _ _ k1, b, sb, nm, ms, ru2, rfl, hK2.mono s01, fun T hT => ?_⟩
    exact ⟨a, T, sa, nm, ns, ms, ru, rfl, hK.mono s01, SqT.of hT, hl, hlm, fun H2 b2 hK3 => q H2 ((But.of_same s01).trans b2) hK3⟩
/-! ### == -/
/-- the sketches of both are alike; the answer -/
def KpEqB (nm nm2 : Str) (ns ms : List Int) : Bool := decide (nm = nm2) && decide (ns = ms)
def spKEq (K : Fg) : Sp := fun vs H Q _ => ∃ (a b s s2 : Addr) (nm nm2 : Str) (ns ms : List Int) (ru ru2 : V), vs = [.ref a, .ref b] ∧ KpA K H a s nm ns ru ∧ KpA K H b s2 nm2 ms ru2 ∧ SkEq K s s2 H ∧ keyS nm = true ∧ keyS nm2 = true ∧
  ∀ H', Same H H' → Q (.bl (KpEqB nm nm2 ns ms)) H'
theorem sc_KEq : FnScope ["self", "other"] ["self", "other"] (defScope m_Kept_eq) := ⟨rfl, rfl, rfl, by decide +kernel, rfl, by decide +kernel, by decide +kernel⟩
def dKey (nm : Str) (ns : List Int) : PyData := .tuple [.str nm, .tuple (ns.map PyData.int)]
theorem dp_ints {H : Hp} : ∀ ns : List Int, DpAll K H (ns.map V.int) (ns.map PyData.int)
  | [] => .nil
  | n :: ns => .cons (.int n) (dp_ints ns)
theorem key_ok {s : Str} (h : keyS s = true) : PyData.strOk s = true := by
  have hs : ∀ c ∈ signsC, c < 0x110000 := by decide +kernel
  unfold keyS at h
  simp only [Bool.and_eq_true, List.all_eq_true, decide_eq_true_eq] at h
  unfold PyData.strOk
  rw [← Array.all_toList, List.all_eq_true]
  exact fun c hc => decide_eq_true (hs c (h.2.2 c hc))
theorem dKey_shaped {nm : Str} (h : keyS nm = true) (ns : List Int) : SeqAt.shaped (dKey nm ns) = true := by
  have h1 := key_ok h
  simp [dKey, SeqAt.shaped, PyData.canLay0, PyData.canLayAll0, PyData.depth, PyData.depthAll, PySem.W.ke_canLayAll0, PySem.W.ke_depthAll, h1]
theorem eqvAll_ints : ∀ ns ms : List Int, PyData.eqvAll (ns.map PyData.int) (ms.map PyData.int) = decide (ns = ms)
  | [], [] => rfl
  | [], _ :: _ => rfl
  | _ :: _, [] => rfl
  | a :: r, b :: t => by
    show (a == b && PyData.eqvAll (r.map PyData.int) (t.map PyData.int)) = _
    rw [eqvAll_ints r t]
    by_cases h : a = b <;> by_cases h' : r = t <;> simp [h, h']
theorem dKey_eqv (nm nm2 : Str) (ns ms : List Int) : PyData.eqv (dKey nm ns) (dKey nm2 ms) = KpEqB nm nm2 ns ms := by
  show (nm == nm2 && (PyData.eqvAll (ns.map PyData.int) (ms.map PyData.int) && true)) = _
  rw [eqvAll_ints, Bool.and_true]
  unfold KpEqB
  congr 1
theorem hasM_KEq (e : Ev K mg) : HasM P w K mg base 7 "Kept" "__eq__" ["self", "other"] (spKEq K) := by
  obtain ⟨fd, F⟩ := e.F_m_Kept_eq
  obtain ⟨d1, p1, G1, b1⟩ := hasP_seed (P := P) (w := w) (base := base) e
  obtain ⟨d2, p2, G2, b2⟩ := hasP_sketch (P := P) (w := w) (base := base) e
  obtain ⟨d3, p3, G3, b3⟩ := hasP_shown (P := P) (w := w) (base := base) e
  obtain ⟨d4, M4, G4, b4⟩ := hasM_SEq (P := P) (w := w) (base := base) e
  refine ⟨fd, e.me_Kept_eq, ?_, F.bindsN fun _ _ _ _ _ _ us hl => match us, hl with | [_, _], _ => rfl⟩
  refine F.okD sc_KEq (fun vs H Q E h => ?_) (fun cdv A outer s H vs Q E hr h => ?_)
  · obtain ⟨a, b, s, s2, nm, nm2, ns, ms, ru, ru2, rfl, _⟩ := h; rfl
  · obtain ⟨a, b, sa, sb, nm, nm2, ns, ms, ru, ru2, rfl, hK, hK2, hSk, hn1, hn2, q⟩ := h
    have hr2 := hr.mono (show 2 ≤ 6 by decide)
    refine ⟨_, pss_cons (ps_if (pt_not (pt_val (pe_callB call_isi rfl e.b_isinstance boot_isinstance (pa_cons (pv 1) (pa_cons (pe_glob rfl e.g_Kept (v := .ref (ga K "Kept")) rfl) pa_nil))))) (pss_one (ps_ret pe_bl)) pss_nil)
      (pss_one (ps_ret (pe_and (pe_cmpR (op_eqD hr.units) (pe_tup (pa_cons (pe_prop (pv 0) e.cl_Kept p1 G1 hr2 b1 .nil pass0 rfl) (pa_cons (pe_prop (pv 0) e.cl_Kept p3 G3 hr2 b3 .nil pass0 rfl) pa_nil)))
          (pe_tup (pa_cons (pe_prop (pv 1) e.cl_Kept p1 G1 hr2 b1 .nil pass0 rfl) (pa_cons (pe_prop (pv 1) e.cl_Kept p3 G3 hr2 b3 .nil pass0 rfl) pa_nil))) (nomark _))
        (pe_one (pe_cmpR (op_eqO G4 hr M4.at_ M4.fn b4) (pe_prop (pv 0) e.cl_Kept p2 G2 hr2 b2 .nil pass0 rfl) (pe_prop (pv 1) e.cl_Kept p2 G2 hr2 b2 .nil pass0 rfl) (nomark _)))))), ?_⟩
    obtain ⟨dx, st, sh, h1, h2, h3⟩ := id hK
    obtain ⟨dy, st2, sh2, k1, k2, k3⟩ := id hK2
    obtain ⟨s1, s2, ⟨dz, d, ks, ha, hd⟩, ⟨dw, d', ls, hb, hd'⟩, hal⟩ := id hSk
    refine ⟨_, rfl, _, _, _, _, _, rfl, .own _, .base (e.ty_Kept.ty k1), e.k_Kept_Kept, true, rfl, iteF ?_⟩
    refine ⟨_, rfl, a, dx, _, rfl, h1, a, sa, nm, ns, ru, rfl, hK, _, rfl, a, dx, _, rfl, h1, a, sa, nm, ns, ru, rfl, hK, fun T hT => ⟨(by show 2 ≤ sizeLine; decide), fun p hp => ?_⟩⟩
    have x1 := same_upd (o := .tup [.str nm, .ref T]) hp
    refine ⟨_, rfl, b, dy, _, rfl, x1 _ _ k1, b, sb, nm2, ms, ru2, rfl, hK2.mono x1, _, rfl, b, dy, _, rfl, x1 _ _ k1, b, sb, nm2, ms, ru2, rfl, hK2.mono x1, fun U hU => ⟨(by show 2 ≤ sizeLine; decide), fun p2 hp2 => ?_⟩⟩
    have x2 := same_upd (o := .tup [.str nm2, .ref U]) hp2
    have x12 := x1.trans x2
    refine ⟨dKey nm ns, dKey nm2 ms, .tup (SqT.of (x2 _ _ upd_same)) (.cons (.str _) (.cons (.tup (SqT.of (x12 _ _ hT)) (dp_ints _)) .nil)), .tup (SqT.of upd_same) (.cons (.str _) (.cons (.tup (SqT.of (x2 _ _ hU)) (dp_ints _)) .nil)), dKey_shaped hn1 _, dKey_shaped hn2 _, ?_⟩
    rw [dKey_eqv]
    by_cases hc : KpEqB nm nm2 ns ms = true
    · rw [hc]
      refine ⟨true, rfl, iteT ?_⟩
      refine ⟨_, rfl, a, dx, _, rfl, x12 _ _ h1, a, sa, nm, ns, ru, rfl, hK.mono x12, _, rfl, b, dy, _, rfl, x12 _ _ k1, b, sb, nm2, ms, ru2, rfl, hK2.mono x12, ?_⟩
      refine ⟨sa, sb, _, _, _, _, rfl, rfl, x12 _ _ ha, x12 _ _ hb, sa, sb, rfl, ?_, fun H3 s3 => ⟨true, rfl, ?_⟩⟩
      · obtain ⟨s1, s2, e1, e2, e3⟩ := hSk
        exact ⟨s1, s2, mn_SkA x12 e1, mn_SkA x12 e2, e3⟩
      · have := q H3 (x12.trans s3)
        rw [hc] at this
        exact this
    · have hf : KpEqB nm nm2 ns ms = false := by simpa using hc
      rw [hf]
      refine ⟨false, rfl, iteF ?_⟩
      have := q _ x12
      rw [hf] at this
      exact this
end NG

set_option Elab.async false
set_option linter.all false
set_option maxRecDepth 100000
set_option maxHeartbeats 400000
/-! has_places, Rule.fits, Kept.use -/
namespace NG
open PySem PySem.Spec PyProof.Rows L2 He
variable {P : Program} {w : World} {K : Fg} {mg : Str → Option Value} {base : Heap}
theorem sc_HPl : FnScope ["formula", "many", "key"] ["formula", "many"] (defScope f_has_places) := ⟨rfl, rfl, rfl, by decide +kernel, rfl, by decide +kernel, by decide +kernel⟩
def spHPl (K : Fg) : Sp := fun vs H Q _ => ∃ a r m, vs = [.ref a, .int m] ∧ QuA K H a r ∧ ∀ H', Same H H' → Q (.bl true) H'
theorem has_has_places (e : Ev K mg) : Has P w K mg base 2 "has_places" ["formula", "many"] (spHPl K) := by
  obtain ⟨fd, F⟩ := e.F_f_has_places
  refine ⟨_, fd, e.g_has_places, ?_, F.kp, F.bindsN fun _ _ _ _ _ _ us hl => match us, hl with | [_, _], _ => rfl⟩
  obtain ⟨d1, M1, G1, b1⟩ := hasM_QUsed (P := P) (w := w) (base := base) e
  refine F.okD sc_HPl (fun vs H Q E h => ?_) (fun cdv A outer s H vs Q E hr h => ?_)
  · obtain ⟨a, r, m, rfl, _⟩ := h; rfl
  · obtain ⟨a, r, m, rfl, hq, q⟩ := h
    refine ⟨_, pss_one (ps_ret (pe_callB (show CallR _ (.builtin "all") _ from cr_all rfl) rfl e.b_all (by decide +kernel) (pa_cons (pe_lc (own := [("key", 2)]) (g := gName 2) (tt := tYes) (te := fun _ _ _ => False) rfl sc_HPl.nd (pi_list (pe_meth0 (pv 0) e.cl_Question M1 G1 hr b1 .nil pass0)) (blkOk_by (N := ["formula", "many", "key"]) (sc := defScope f_has_places) (by decide +kernel))
        (fun _ _ _ _ _ => pg_name (i := 2) sc_HPl.nd rfl (Or.inl rfl)) (fun _ _ _ _ _ => pts_nil) (fun _ _ _ _ _ => pe_never)) pa_nil))), ?_⟩
    obtain ⟨dx, d, ha, _⟩ := id hq
    refine ⟨_, rfl, a, dx, _, rfl, ha, f1_no (by decide), a, r, rfl, hq, fun p H1 s1 hp => ?_⟩
    refine ⟨p, rfl, ⟨_, SqL.of hp⟩, fun D hD => ?_⟩
    refine lc_src (te := fun _ _ _ => False) (src_list (R := isS) (H0 := H1) (bs := []) mn_isS .nil) isBl (fun _ => true) (fun _ => true) ⟨Same.refl _, SqL.of hp⟩ hD (by show 0 < sizeLine; decide) ?_ ?_
    · intro i b x H2 acc Nx hb
      simp at hb
    · intro H2 ys s2 hy he
      have ey := each_bl (he H2 fun _ _ _ z => z)
      have ey : ys = [] := by simpa using ey
      subst ey
      exact ⟨D, [], rfl, SqL.of hy, q _ (s1.trans s2)⟩
theorem passE0 {X : Cx} : Passes (CX X.prog X.w) X E0 := fun _ _ _ _ _ _ _ c => by
  obtain ⟨_, _, _, _, _, _, _, _, _, _, _, _, hW⟩ := c
  exact hW.elim
theorem nostop0 {K : Fg} : NoStop K E0 := fun _ _ _ h => h.elim
theorem dp_strs {H : Hp} : ∀ ns : List Str, DpAll K H (ns.map V.str) (ns.map PyData.str)
  | [] => .nil
  | n :: ns => .cons (.str n) (dp_strs ns)
theorem canLay_strs : ∀ {ns : List Str}, (∀ n ∈ ns, PyData.strOk n = true) → PyData.canLayAll0 (ns.map PyData.str) = true
  | [], _ => rfl
  | n :: ns, h => by
    have h1 := h n List.mem_cons_self
    have h2 := canLay_strs fun m hm => h m (List.mem_cons_of_mem _ hm)
    simp [PyData.canLayAll0, PyData.canLay0, h1, h2]
theorem shaped_strs {ns : List Str} (h : ∀ n ∈ ns, PyData.strOk n = true) : SeqAt.shaped (.list (ns.map PyData.str)) = true := by
  simp [SeqAt.shaped, PyData.canLay0, PyData.depth, canLay_strs h, depth_strs]
theorem eqv_strs : ∀ ns : List Str, PyData.eqvAll (ns.map PyData.str) (ns.map PyData.str) = true
  | [] => rfl
  | n :: ns => by
    show (n == n && PyData.eqvAll _ _) = true
    rw [eqv_strs ns, beq_self_eq_true]
    rfl
abbrev nFits : List Str := ["self", "sketch", "seed", "weight", "note"]
theorem sc_Fits : FnScope nFits ["self", "sketch"] (defScope m_Rule_fits) := ⟨rfl, rfl, rfl, by decide +kernel, rfl, by decide +kernel, by decide +kernel⟩
def spFits (K : Fg) : Sp := fun vs H Q _ => ∃ (a s : Addr) (ys : List Str) (n : Int) (sk : List SkE), vs = [.ref a, .ref s] ∧ RuA K H a ys n ∧ SkA K H s sk ∧ ys.Perm (sk.map (·.1)) ∧ sortedS ys = true ∧ (sk.map (·.1)).Nodup ∧ sk.length ≤ 12 ∧ (∀ m ∈ sk, keyS m.1 = true ∧ m.2.2.length ≤ 1000) ∧
  ∀ H', Same H H' → Q (.bl true) H'
theorem hasM_Fits (e : Ev K mg) : HasM P w K mg base 6 "Rule" "fits" ["self", "sketch"] (spFits K) := by
  obtain ⟨fd, F⟩ := e.F_m_Rule_fits
  refine ⟨fd, e.me_Rule_fits, ?_, F.bindsN fun _ _ _ _ _ _ us hl => match us, hl with | [_, _], _ => rfl⟩
  obtain ⟨d1, M1, G1, b1⟩ := hasM_SSeeds (P := P) (w := w) (base := base) e
  obtain ⟨d2, M2, G2, b2⟩ := hasG_SWalk (P := P) (w := w) (base := base) e
  obtain ⟨f3, d3, m3, G3, k3, b3⟩ := has_has_places (P := P) (w := w) (base := base) e
  obtain ⟨d4, M4, G4, b4⟩ := hasM_NLen (P := P) (w := w) (base := base) e
  refine F.okD sc_Fits (fun vs H Q E h => ?_) (fun cdv A outer s H vs Q E hr h => ?_)
  · obtain ⟨a, s, ys, n, sk, rfl, _⟩ := h; rfl
  · obtain ⟨a, sa, ys, n, sk, rfl, hR, hS, hperm, hsrt, hnd, hl, hk, q⟩ := h
    have hr1 := hr.mono (show 1 ≤ 5 by decide)
    have hr2 := hr.mono (show 2 ≤ 5 by decide)
    have hr4 := hr.mono (show 4 ≤ 5 by decide)
    have hu := hu_of hr
    refine ⟨_, pss_cons (ps_if (pt_cmpR (op_neD hr.units) (pe_callB cr_sortedS rfl e.b_sorted boot_sorted (pa_cons (pe_meth0 (pv 1) e.cl_Sketch M1 G1 hr1 b1 .nil pass0) pa_nil)) (pe_callTy (call_listD rfl) rfl e.b_list boot_list (pa_cons (pe_fld (pv 0) rfl) pa_nil)) (nomark _)) (pss_one (ps_ret pe_bl)) pss_nil)
      (pss_one (ps_ret (pe_callB (show CallR _ (.builtin "all") _ from cr_all rfl) rfl e.b_all (by decide +kernel) (pa_cons (pe_lc (own := [("seed", 2), ("weight", 3), ("note", 4)]) (g := gTup K 3 _) (tt := tYes) rfl sc_Fits.nd
        (pi_list (pe_listG (E := E0) (pgen_meth0 (pv 1) e.cl_Sketch M2 G2 hr1 b2 .nil) passE0 nostop0 hr4 rfl e.b_list boot_list)) (blkOk_by (N := nFits) (sc := defScope m_Rule_fits) (by decide +kernel))
        (fun _ _ _ _ _ => pg_tup rfl (pgs_cons (pg_name (i := 2) sc_Fits.nd rfl (Or.inl rfl)) (pgs_cons (pg_name (i := 3) sc_Fits.nd rfl (Or.inl rfl)) (pgs_cons (pg_name (i := 4) sc_Fits.nd rfl (Or.inl rfl)) pgs_nil)))) (fun _ _ _ _ _ => pts_nil)
        (fun _ _ _ _ _ => pe_call G3 hr2 rfl m3 k3 b3 .nil pass0 (pa_cons (pe_dget hu (show PE _ _ (tFld K (tVar 0) "own_formulas") from pe_fld (pv 0) rfl) (pv 2) (fun _ _ => rfl)) (pa_cons (pe_callB (call_lenO G4 hr2 M4.at_ M4.fn b4) rfl e.b_len boot_len (pa_cons (pv 4) pa_nil)) pa_nil)))) pa_nil)))), ?_⟩
    obtain ⟨dy, c, kvs, hs1, hs2, hs3, hs4⟩ := id hS
    refine ⟨_, rfl, sa, dy, _, rfl, hs1, f1_no (by decide), .ref sa, sk, rfl, ⟨sa, rfl, hS⟩, fun l H1 s1 hl1 => ?_⟩
    refine ⟨l, sk.map (·.1), rfl, SqL.of hl1, by rw [List.length_map]; omega, fun zs p hp2 hsrt2 hpn => ?_⟩
    have ezs : zs = ys := sorted_eq (hp2.trans hperm.symm) hsrt2 hsrt
    subst ezs
    have s2 := s1.trans (same_upd (o := .lst (zs.map V.str)) hpn)
    obtain ⟨dx, f, t, g, ha, ⟨kf, hf1, hf2, hf3⟩, ht⟩ := hR.mono s2
    refine ⟨_, rfl, a, _, dx, _, _, rfl, ha, e.cl_Rule, e.n_Rule_own_formulas, ruf_f _ _ _, f, kf, rfl, .inl hf1, fun p2 hp2' => ?_⟩
    rw [keys_vals hf2]
    have s3 := same_upd (o := .lst (zs.map V.str)) hp2'
    have hok : ∀ x ∈ zs, PyData.strOk x = true := fun x hx => by
      obtain ⟨m, hm, rfl⟩ := List.mem_map.mp (hperm.mem_iff.mp hx)
      exact key_ok (hk m hm).1
    refine ⟨.list (zs.map PyData.str), .list (zs.map PyData.str), .lst (SqL.of (s3 _ _ upd_same)) (dp_strs _), .lst (SqL.of upd_same) (dp_strs _), shaped_strs hok, shaped_strs hok, ?_⟩
    rw [show PyData.eqv (.list (zs.map PyData.str)) (.list (zs.map PyData.str)) = true from eqv_strs zs]
    refine ⟨false, rfl, iteF ?_⟩
    have s23 := s2.trans s3
    have hS2 := mn_SkA s23 hS
    refine ⟨_, rfl, sa, dy, _, rfl, s23 _ _ hs1, f1_no (by decide), .ref sa, sk, rfl, ⟨sa, rfl, hS2⟩, hnd, by omega, fun out H4 s4 hout => ?_⟩
    intro p4 hp4
    have s5 := s23.trans (s4.trans (same_upd (o := .lst out) hp4))
    have hout5 := hout.mono mn_Sd (same_upd (o := .lst out) hp4)
    refine ⟨p4, rfl, ⟨_, SqL.of upd_same⟩, fun D hD => ?_⟩
    have hR5 := hR.mono s5
    refine lc_src (src_list mn_Sd hout5) isBl (fun _ => true) (fun _ => true) ⟨Same.refl _, SqL.of upd_same⟩ hD (small1000 (by omega)) ?_ ?_
    · rintro i m y H6 acc Nx hb s6 _ ⟨T, y1, y2, rfl, hT, hy1, hy2⟩ hD6 hl6 _ _ kT
      refine ⟨T, _, rfl, SqT.of hT, rfl, _, _, rfl, _, _, rfl, _, _, rfl, rfl, rfl, tYes_of ?_⟩
      obtain ⟨dx6, f6, t6, g6, ha6, hF6, ht6⟩ := hR5.mono s6
      have hm := List.mem_of_getElem? hb
      have hmz : m.1 ∈ zs := hperm.mem_iff.mpr (List.mem_map.mpr ⟨m, hm, rfl⟩)
      obtain ⟨v, hv, b, rfl, hbq⟩ := hF6.at ((hperm.nodup_iff).mpr hnd) hmz
      obtain ⟨c2, rfl, dz, l2, hc2, _⟩ := id hy2
      refine ⟨_, rfl, a, _, dx6, _, _, rfl, ha6, e.cl_Rule, e.n_Rule_own_formulas, ruf_f _ _ _, _, rfl, f6, .ref b, rfl, hv _ (Same.refl _), ?_⟩
      refine ⟨_, rfl, c2, dz, _, rfl, hc2, .ref c2, m.2.2, rfl, hy2, m.2.2.length, rfl, by have := (hk m hm).2; omega, ?_⟩
      exact ⟨b, _, _, rfl, hbq, fun H7 s7 => ⟨acc, s7 _ _ hD6, hl6, kT rfl _ _ s7 fun _ _ => rfl⟩⟩
    · intro H6 zs' s6 hy he
      have ey := each_bl (he H6 fun _ _ _ z => z)
      rw [filt] at ey
      refine ⟨D, _, rfl, SqL.of (by rw [hy, ey]), ?_⟩
      rw [List.all_map]
      have ea : sk.all (id ∘ fun _ => true) = true := List.all_eq_true.mpr fun _ _ => rfl
      rw [ea]
      exact q _ (s5.trans s6)
end NG

set_option Elab.async false
set_option linter.all false
set_option maxRecDepth 100000
set_option maxHeartbeats 400000
/-! Kept.use; {d!r} of a dict of texts; Rule.__repr__ -/
namespace NG
open PySem PySem.Spec PyProof.Rows L2 He
variable {P : Program} {w : World} {K : Fg} {mg : Str → Option Value} {base : Heap}
theorem sc_KUse : FnScope ["self", "rule"] ["self", "rule"] (defScope m_Kept_use) := ⟨rfl, rfl, rfl, by decide +kernel, rfl, by decide +kernel, by decide +kernel⟩
def spKUse (K : Fg) : Sp := fun vs H Q _ => ∃ (a b s : Addr) (nm : Str) (ns : List Int) (ru : V) (ys : List Str) (n : Int) (sk : List SkE), vs = [.ref a, .ref b] ∧ KpA K H a s nm ns ru ∧ RuA K H b ys n ∧ SkA K H s sk ∧ ys.Perm (sk.map (·.1)) ∧ sortedS ys = true ∧ (sk.map (·.1)).Nodup ∧ sk.length ≤ 12 ∧ (∀ m ∈ sk, keyS m.1 = true ∧ m.2.2.length ≤ 1000) ∧
  ∀ H', But a H H' → KpA K H' a s nm ns (.ref b) → Q .non H'
theorem hasM_KUse (e : Ev K mg) : HasM P w K mg base 7 "Kept" "use" ["self", "rule"] (spKUse K) := by
  obtain ⟨fd, F⟩ := e.F_m_Kept_use
  refine ⟨fd, e.me_Kept_use, ?_, F.bindsN fun _ _ _ _ _ _ us hl => match us, hl with | [_, _], _ => rfl⟩
  obtain ⟨d1, M1, G1, b1⟩ := hasM_Fits (P := P) (w := w) (base := base) e
  obtain ⟨d3, p3, G3, b3⟩ := hasP_shown (P := P) (w := w) (base := base) e
  refine F.okD sc_KUse (fun vs H Q E h => ?_) (fun cdv A outer s H vs Q E hr h => ?_)
  · obtain ⟨a, b, s, nm, ns, ru, ys, n, sk, rfl, _⟩ := h; rfl
  · obtain ⟨a, b, sa, nm, ns, ru, ys, n, sk, rfl, hK, hR, hS, g1, g2, g3, g4, g5, q⟩ := h
    have hr2 := hr.mono (show 2 ≤ 6 by decide)
    refine ⟨_, pss_cons (ps_if (PW.pt (pw_and (pt_cmpR op_notN (pv 1) pe_non (nomark _)) (pw_and1 (pt_not (PW.pt (pw_and (pt_val (pe_callB call_isi rfl e.b_isinstance boot_isinstance (pa_cons (pv 1) (pa_cons (pe_glob rfl e.g_Rule (v := .ref (ga K "Rule")) rfl) pa_nil)))) (pw_and1 (pt_val (pe_meth (pv 1) e.cl_Rule M1 G1 hr b1 .nil pass0 (pa_cons (pe_fld (pv 0) rfl) pa_nil)))))))))) (pss_one ps_never) pss_nil)
      (pss_one (ps_fld (pv 0) (pe_tup (pa_cons (pe_prop (pv 0) e.cl_Kept p3 G3 hr2 b3 .nil pass0 rfl) (pa_cons (pv 1) pa_nil))) rfl)), ?_⟩
    obtain ⟨dx, st, sh, h1, h2, h3⟩ := id hK
    obtain ⟨dy, f, t, g, hb, _⟩ := id hR
    refine ⟨_, rfl, rfl, true, rfl, iteT ?_⟩
    refine ⟨_, rfl, _, _, _, _, _, rfl, .own _, .base (e.ty_Rule.ty hb), e.k_Rule_Rule, true, rfl, iteT ?_⟩
    refine ⟨_, rfl, b, dy, _, rfl, hb, ruf_no (by decide) (by decide) (by decide), _, rfl, a, _, dx, _, _, rfl, h1, e.cl_Kept, e.n_Kept_own_sketch, kfs_sketch _ _ _, ?_⟩
    refine ⟨b, sa, ys, n, sk, rfl, hR, hS, g1, g2, g3, g4, g5, fun H1 s1 => ⟨true, rfl, iteF ?_⟩⟩
    refine ⟨_, rfl, a, dx, _, rfl, s1 _ _ h1, a, sa, nm, ns, ru, rfl, hK.mono s1, fun T hT => ?_⟩
    refine ⟨_, rfl, (by show 2 ≤ sizeLine; decide), fun st' hst => ?_⟩
    have s2 := s1.trans (same_upd (o := .tup [.ref T, .ref b]) hst)
    have ha2 := s2 _ _ h1
    refine ⟨_, rfl, a, _, dx, _, rfl, ha2, e.cl_Kept, e.n_Kept_own_state, kfs_len _ _ _, ?_⟩
    rw [kfs_put]
    have hsa : st' ≠ a := fun y => by subst y; rw [upd_same] at ha2; exact nomatch ha2
    have hT2 := (same_upd (o := .tup [.ref T, .ref b]) hst) _ _ hT
    refine q _ ((But.of_same s2).trans But.upd) ⟨dx, st', T, upd_same, by rw [upd_ne hsa, upd_same], ?_⟩
    rw [upd_ne (fun y => by subst y; rw [hT2] at ha2; exact nomatch ha2)]
    exact hT2
/-! ### {d!r} -/
def ssKV (ps : List (Str × Str)) : List (Key × V) := ps.map fun p => (Sum.inr p.1, .str p.2)
def ssTx (ps : List (Str × Str)) : List Str := ps.map fun p => reprText p.1 ++ ": " ++ reprText p.2
theorem entriesK {as : List Addr} {h₀ : Heap} {d : Nat} : ∀ {ps : List (Str × Str)} {vs : List (Key × Value)} {es : List DictEntry}, KV (ssKV ps) vs → Pairs (mixKind P w) es vs → (∀ p ∈ ps, (reprText p.1).length ≤ sizeLine ∧ (reprText p.2).length ≤ sizeLine) → ReprEntriesK P w as h₀ d es (ssTx ps)
  | [], _, _, .nil, .nil, _ => .nil
  | p :: ps, _, _, .cons h t, .cons hk hv tl, hz => by
    obtain ⟨e1, r⟩ := h
    obtain ⟨tk, e2⟩ := r
    rw [← e1] at hk
    obtain ⟨u, eu⟩ := Value.isStrOf_shape (x := p.1) hk
    refine .cons ?_ ?_ (entriesK t tl fun q hq => hz q (List.mem_cons_of_mem _ hq))
    · rw [eu]; exact .of_is (ReprIs.str p.1 u (hz p List.mem_cons_self).1) _ _ _
    · rw [hv, e2]; exact .of_is (ReprIs.str p.2 tk (hz p List.mem_cons_self).2) _ _ _
section
variable {X : Cx} {g : List Code}
def tFmtD (g : List Code) (te : TE) : TE := fun σ H Q => te σ H fun v H1 => ∃ (d : Addr) (ps : List (Str × Str)), v = .ref d ∧ H1 d = some (.dK (ssKV ps)) ∧ Clear g d ∧ (∀ p ∈ ps, (reprText p.1).length ≤ sizeLine ∧ (reprText p.2).length ≤ sizeLine) ∧ (dictText (ssTx ps)).length ≤ sizeLine ∧ Q (.str (dictText (ssTx ps))) H1
theorem pe_fmtD {k : Nat} {e : Expr} {te : TE} {pos : Pos} (hg : X.A.guards = some g) (hr : Room k X.A) (he : PE X e te) : PE X (.FormattedValue e 114 none pos) (tFmtD g te) := by
  refine ⟨fun pins s σ H Q I h => ?_⟩
  refine wpAny_FormattedValue_repr (thn (he.run pins s σ H _ I h) fun v s1 hv => ?_)
  obtain ⟨x, H1, I1, r1, d, ps, rfl, hd, hcl, hz, hz2, q⟩ := hv
  cases r1
  obtain ⟨_, hsys, vs, rel, o, es, ep, ho, hx, hdt, _, hp, _⟩ := (show ObjOk X.prog X.w H1 s1.heap d (.dK (ssKV ps)) from I1.hok d _ hd)
  refine wpAny_pyReprObj_dictK (as := []) (h₀ := s1.heap) (d := 0) ho hx.1 hdt hsys (by simp) (entriesK rel hp hz) hg (fun b hb => by rw [List.mem_singleton.mp hb]; exact hcl) ?_ (fun _ _ e => e) (fun h' u tk hk => ?_) hz2
  · have := hr.units; omega
  · have I2 : Inv X pins σ H1 { s1 with heap := h', toks := tk } := I1.kept hk
    exact wpAny_formatField_str ⟨.str _, H1, I2, ⟨_, rfl⟩, q⟩ ⟨.str _, H1, I2.tok _, ⟨_, rfl⟩, q⟩ hz2
end
end NG
/-! ### Rule.__repr__ -/
namespace NG
open PySem PySem.Spec PyProof.Rows L2 He
variable {P : Program} {w : World} {K : Fg} {mg : Str → Option Value} {base : Heap}
def ruPs (ys : List Str) (n : Int) : List (Str × Str) := ys.map fun s => (s, qTxt n)
def ruTxt (ys : List Str) (n : Int) : Str := Str.empty ++ "Rule(" ++ dictText (ssTx (ruPs ys n)) ++ ")"
def TxOk (n : Int) : Prop := (qTxt n).length ≤ 1000 ∧ ∀ c ∈ (qTxt n).cps.toList, c < 16 ^ 8
/-- a rule's own texts -/
def RuT (K : Fg) (H : Hp) (a t : Addr) (ys : List Str) (n : Int) : Prop := ∃ dx f g, H a = some (.ins (ga K "Rule") dx (ruf f t g)) ∧ H t = some (.dK (txKV ys n))
theorem RuT.mono {H H' : Hp} {a t : Addr} {ys : List Str} {n : Int} (s : Same H H') (h : RuT K H a t ys n) : RuT K H' a t ys n := let ⟨dx, f, g, h1, h2⟩ := h; ⟨dx, f, g, s _ _ h1, s _ _ h2⟩
theorem RuA.t {H : Hp} {a : Addr} {ys : List Str} {n : Int} (h : RuA K H a ys n) : ∃ t, RuT K H a t ys n := let ⟨dx, f, t, g, h1, _, h2⟩ := h; ⟨t, dx, f, g, h1, h2⟩
theorem ru_kv (ys : List Str) (n : Int) : txKV ys n = ssKV (ruPs ys n) := by unfold txKV ssKV ruPs; rw [List.map_map]; rfl
theorem key_cps {s : Str} (h : keyS s = true) : ∀ c ∈ s.cps.toList, c < 16 ^ 8 := by
  have hs : ∀ c ∈ signsC, c < 16 ^ 8 := by decide +kernel
  unfold keyS at h
  simp only [Bool.and_eq_true, List.all_eq_true, decide_eq_true_eq] at h
  exact fun c hc => hs c (h.2.2 c hc)
theorem piled_le {B : Nat} : ∀ {ts : List Str}, (∀ t ∈ ts, t.length ≤ B) → piled ts ≤ ts.length * (B + 2)
  | [], _ => by simp [piled]
  | t :: ts, h => by
    have h1 := h t List.mem_cons_self
    have h2 := piled_le fun x hx => h x (List.mem_cons_of_mem _ hx)
    rw [piled_cons, List.length_cons, Nat.add_mul]
    omega
theorem dictText_le {B : Nat} {ts : List Str} (h : ∀ t ∈ ts, t.length ≤ B) : (dictText ts).length ≤ ts.length * (B + 2) + 2 := by
  have e : (dictText ts).length = 1 + (Str.join ", " ts).length + 1 := by
    unfold dictText
    rw [strLen_append, strLen_append]; rfl
  by_cases hn : ts = []
  · subst hn
    rw [e]
    show 1 + 0 + 1 ≤ _
    omega
  · have h2 := join_length_add ts hn
    have h3 := piled_le h
    omega
theorem ssTx_le {ys : List Str} {n : Int} (hk : ∀ s ∈ ys, keyS s = true) (ht : TxOk n) : ∀ t ∈ ssTx (ruPs ys n), t.length ≤ 12000 := by
  intro t h
  unfold ssTx ruPs at h
  rw [List.map_map] at h
  obtain ⟨s, hs, rfl⟩ := List.mem_map.mp h
  have h1 := StrLaws.reprText_len s (key_cps (hk s hs))
  have h2 := StrLaws.reprText_len (qTxt n) ht.2
  have h3 := keyS_len (hk s hs)
  have h4 := ht.1
  show (reprText s ++ ": " ++ reprText (qTxt n)).length ≤ 12000
  rw [strLen_append, strLen_append]
  have e2 : ((": " : String) : Str).length = 2 := rfl
  omega
theorem ruTxt_le {ys : List Str} {n : Int} (hk : ∀ s ∈ ys, keyS s = true) (ht : TxOk n) (hl : ys.length ≤ 64) : (dictText (ssTx (ruPs ys n))).length ≤ 800000 := by
  have h1 := dictText_le (ssTx_le hk ht)
  have h2 : (ssTx (ruPs ys n)).length = ys.length := by unfold ssTx ruPs; rw [List.length_map, List.length_map]
  rw [h2] at h1
  omega
theorem sc_RuRepr : FnScope ["self"] ["self"] (defScope m_Rule_repr) := ⟨rfl, rfl, rfl, by decide +kernel, rfl, by decide +kernel, by decide +kernel⟩
def spRuRepr (K : Fg) : SpG := fun g vs H Q _ => ∃ a t ys n, vs = [.ref a] ∧ RuT K H a t ys n ∧ Clear g t ∧ ys.length ≤ 64 ∧ (∀ s ∈ ys, keyS s = true) ∧ TxOk n ∧ Q (.str (ruTxt ys n)) H
theorem hasG_RuRepr (e : Ev K mg) : ∃ fd, Meth K (ga K "Rule") "__repr__" (ma K (ga K "Rule") "__repr__") ∧ FnG P w K mg base CX0 1 (ma K (ga K "Rule") "__repr__") fd ["self"] (spRuRepr K) ∧ Binds K fd ["self"] [] := by
  obtain ⟨fd, F⟩ := e.F_m_Rule_repr
  refine ⟨fd, e.me_Rule_repr, ?_, F.bindsN fun _ _ _ _ _ _ us hl => match us, hl with | [_], _ => rfl⟩
  refine F.okG sc_RuRepr (fun g vs H Q E h => ?_) (fun cdv A outer s H vs Q E g hg hr h => ?_)
  · obtain ⟨a, t, ys, n, rfl, _⟩ := h; rfl
  · obtain ⟨a, t, ys, n, rfl, ⟨dx, f, gg, ha, ht⟩, hc, hl, hk, hx, q⟩ := h
    refine ⟨_, pss_one (ps_ret (pe_joined (.cons pe_str (.cons (pe_fmtD (g := g) ((deeper_guards _ _).trans hg) hr (pe_fld (pv 0) rfl)) (.cons pe_str .nil))))), ?_⟩
    rw [ru_kv] at ht
    have hb := ruTxt_le hk hx hl
    refine ⟨_, rfl, by decide, _, rfl, a, _, dx, _, _, rfl, ha, e.cl_Rule, e.n_Rule_own_texts, ruf_t _ _ _, t, ruPs ys n, rfl, ht, hc, fun p hp => ?_, by rw [sizeLine_eq]; omega, _, rfl, ?_, _, rfl, ?_, q⟩
    · obtain ⟨s, hs, rfl⟩ := List.mem_map.mp hp
      have h1 := StrLaws.reprText_len s (key_cps (hk s hs))
      have h2 := StrLaws.reprText_len (qTxt n) hx.2
      have h3 := keyS_len (hk s hs)
      have h4 := hx.1
      rw [sizeLine_eq]
      exact ⟨by show (reprText s).length ≤ _; omega, by show (reprText (qTxt n)).length ≤ _; omega⟩
    · rw [strLen_append, sizeLine_eq]
      have e1 : (Str.empty ++ "Rule(").length = 5 := by decide +kernel
      omega
    · rw [strLen_append, strLen_append, sizeLine_eq]
      have e1 : (Str.empty ++ "Rule(").length = 5 := by decide +kernel
      have e2 : ((")" : String) : Str).length = 1 := rfl
      omega
end NG

set_option Elab.async false
set_option linter.all false
set_option maxRecDepth 100000
set_option maxHeartbeats 400000
/-! repr of lists of flat things, of tuples of ints -/
namespace NG
open PySem PySem.Spec PyProof.Rows L2 He
/-- a flat thing's text -/
def RpF (x : V) (t : Str) : Prop := ∀ (P : Program) (w : World) (u : Value), RelV x u → ReprIs P w u t
theorem rpf_int {i : Int} (h : i.natAbs.log2 < 1920) : RpF (.int i) (toString i) := fun P w u r => by obtain ⟨t, rfl⟩ := r; exact ReprIs.int t h
theorem rpf_bl (b : Bool) : RpF (.bl b) (if b then "True" else "False" : String) := fun P w u r => by cases r; cases b <;> exact ReprIs.bool _
theorem rpf_non : RpF .non "None" := fun P w u r => by cases r; exact ReprIs.none
theorem RpF.i {X : Cx} {PP : Hp → Prop} {x : V} {t : Str} (h : RpF x t) {as : List Addr} {k : Nat} : RpI X PP as k x t :=
  RpI.of_K fun pins σ H s u I p r => ⟨0, Nat.zero_le _, .of_is (h X.prog X.w u r) _ _ _⟩
theorem sum_le {B : Nat} : ∀ {ts : List Str}, (∀ t ∈ ts, t.length ≤ B) → (ts.map (·.length)).sum ≤ ts.length * B
  | [], _ => by simp
  | t :: ts, h => by
    have h1 := h t List.mem_cons_self
    have h2 := sum_le fun x hx => h x (List.mem_cons_of_mem _ hx)
    rw [List.map_cons, List.sum_cons, List.length_cons, Nat.add_mul]
    omega
theorem list_le {B : Nat} {ts : List Str} (h : ∀ t ∈ ts, t.length ≤ B) : (listText ts).length ≤ ts.length * B + 2 * ts.length + 3 := by
  have h1 := listText_len_le ts
  have h2 := sum_le h
  omega
theorem piledB {B : Nat} {ts : List Str} (h : ∀ t ∈ ts, t.length ≤ B) : piled ts ≤ ts.length * (B + 2) := by
  induction ts with
  | nil => simp [piled]
  | cons t ts ih =>
    have h1 := h t List.mem_cons_self
    have h2 := ih fun x hx => h x (List.mem_cons_of_mem _ hx)
    rw [piled_cons, List.length_cons, Nat.add_mul]
    omega
theorem tup_le {B : Nat} {ts : List Str} (h : ∀ t ∈ ts, t.length ≤ B) : (tupleText ts).length ≤ ts.length * (B + 2) + 3 := by
  unfold tupleText
  rw [strLen_append, strLen_append]
  have e1 : ((("(" : String) : Str)).length = 1 := rfl
  have e3 : (((if ts.length == 1 then ",)" else ")" : String) : Str)).length ≤ 2 := by split <;> decide
  have hb := piledB h
  by_cases hn : ts = []
  · subst hn
    show 1 + 0 + 1 ≤ _
    omega
  · have h2 := join_length_add ts hn
    omega
theorem showL_flat {X : Cx} {k : Nat} {H : Hp} {l : Addr} {xs : List V} {ts : List Str} (h : H l = some (.lst xs)) (hp : Paired RpF xs ts) (hz : (listText ts).length ≤ sizeLine) : ShowL X k [] (.ref l) H (listText ts) := by
  refine ⟨l, fun H => H l = some (.lst xs), fun H => ∃ oa, H l = some (.frz oa (.lst xs)), xs, ts, [], rfl, rfl, ⟨fun H H' s ⟨oa, h⟩ => ⟨oa, s _ _ h⟩, fun H oa _ => ⟨oa, upd_same⟩, fun H h => h, by simp, (Paired.length hp).symm, fun i x hx => ?_⟩, hz, GTr.nil, fun _ _ => Clear.nil _, h⟩
  obtain ⟨t, ht, r⟩ := paired_get hp hx
  exact ⟨t, ht, r.i⟩
/-- tuples of ints -/
def isTI : Rl (List Int) := fun H v ns => ∃ T, v = .ref T ∧ H T = some (.tup (ns.map V.int))
theorem mn_TI : Mn isTI := fun _ _ _ _ s ⟨T, e, h⟩ => ⟨T, e, s _ _ h⟩
def tiTx (ns : List Int) : Str := tupleText (ns.map fun n => (toString n : Str))
def SmallI (ns : List Int) : Prop := ns.length ≤ 100 ∧ ∀ n ∈ ns, n.natAbs.log2 < 1920
theorem tiTx_le {ns : List Int} (h : SmallI ns) : (tiTx ns).length ≤ 200000 := by
  have h1 : ∀ t ∈ ns.map fun n => (toString n : Str), t.length ≤ 1921 := fun t ht => by
    obtain ⟨n, hn, rfl⟩ := List.mem_map.mp ht
    have e := int_text_length_le (k := 1920) (by decide) (h.2 n hn)
    rw [PySem.ofString_length]
    exact e
  have h2 := tup_le h1
  have h3 := h.1
  unfold tiTx
  rw [List.length_map] at h2
  omega
theorem ti_rp {X : Cx} {PP : Hp → Prop} {T : Addr} {ns : List Int} {k : Nat} (hs : SmallI ns) (hPs : ∀ H H', Same H H' → PP H → PP H') (hT : ∀ H, PP H → H T = some (.tup (ns.map V.int))) : RpI X PP [T] (k + 1) (.ref T) (tiTx ns) := by
  refine RpI.tup hPs hT (by simp) ?_
  have : ∀ {l : List Int}, (∀ n ∈ l, n.natAbs.log2 < 1920) → Paired (fun x t => RpI X PP [] k x t) (l.map V.int) (l.map fun n => (toString n : Str)) := by
    intro l
    induction l with
    | nil => intro _; exact .nil
    | cons n l ih => intro h; exact .cons (rpf_int (h n List.mem_cons_self)).i (ih fun m hm => h m (List.mem_cons_of_mem _ hm))
  exact this hs.2
theorem each_refs {H : Hp} : ∀ {xs : List V} {nss : List (List Int)}, Each isTI H xs nss → ∃ Ts : List Addr, xs = Ts.map V.ref ∧ ∀ T ∈ Ts, ∃ ys, H T = some (.tup ys)
  | _, _, .nil => ⟨[], rfl, fun _ h => nomatch h⟩
  | _, _, .cons ⟨T, e, h⟩ t => by
    obtain ⟨Ts, e2, h2⟩ := each_refs t
    refine ⟨T :: Ts, by rw [e, e2]; rfl, fun U hU => ?_⟩
    rcases List.mem_cons.mp hU with rfl | hU
    · exact ⟨_, h⟩
    · exact h2 U hU
theorem showL_tups {X : Cx} {k : Nat} {H : Hp} {l : Addr} {xs : List V} {nss : List (List Int)} (h : H l = some (.lst xs)) (he : Each isTI H xs nss) (hl : nss.length ≤ 10) (hs : ∀ ns ∈ nss, SmallI ns) : ShowL X (k + 1) [] (.ref l) H (listText (nss.map tiTx)) := by
  have hz : (listText (nss.map tiTx)).length ≤ sizeLine := by
    have h1 : ∀ t ∈ nss.map tiTx, t.length ≤ 200000 := fun t ht => by
      obtain ⟨ns, hn, rfl⟩ := List.mem_map.mp ht
      exact tiTx_le (hs ns hn)
    have h2 := list_le h1
    rw [List.length_map] at h2
    rw [sizeLine_eq]
    omega
  obtain ⟨Ts, eT, hTs⟩ := each_refs he
  have hne : l ∉ Ts := fun hm => by
    obtain ⟨ys, hy⟩ := hTs l hm
    rw [h] at hy
    exact nomatch hy
  refine ⟨l, fun H' => H' l = some (.lst xs) ∧ Each isTI H' xs nss, fun H' => Each isTI H' xs nss, xs, nss.map tiTx, Ts, rfl, rfl, ⟨fun H H' s h => h.mono mn_TI s, fun H oa hh => ?_, fun H h => h.1, hne, by rw [List.length_map]; exact he.length.symm, fun i x hx => ?_⟩, hz, GTr.nil, fun _ _ => Clear.nil _, h, he⟩
  · refine hh.2.imp fun v a _ ⟨T, e, hT⟩ => ⟨T, e, ?_⟩
    rw [upd_ne (fun z => by subst z; rw [hh.1] at hT; exact nomatch hT)]
    exact hT
  · obtain ⟨ns, hn, T, e, _⟩ := he.get hx
    refine ⟨tiTx ns, by rw [List.getElem?_map, hn]; rfl, ?_⟩
    subst e
    have hmT : T ∈ Ts := by
      have := List.mem_of_getElem? hx
      rw [eT] at this
      obtain ⟨U, hU, e⟩ := List.mem_map.mp this
      cases e
      exact hU
    refine RpI.more (as := [T]) (ti_rp (hs ns (List.mem_of_getElem? hn)) (fun H H' s h => h.mono mn_TI s) fun H hh => ?_) (fun b hb => by rw [List.mem_singleton.mp hb]; exact hmT)
    obtain ⟨ns', hn', T', e', hT'⟩ := hh.get hx
    rw [hn] at hn'
    cases hn'
    cases e'
    exact hT'
end NG

set_option Elab.async false
set_option linter.all false
set_option maxRecDepth 100000
set_option maxHeartbeats 400000
/-! the law's state; _law_are_right -/
namespace NG
open PySem PySem.Spec PyProof.Rows L2 He
variable {P : Program} {w : World} {K : Fg} {mg : Str → Option Value} {base : Heap}
theorem _root_.L2.FunD.okGD {P : Program} {w : World} {K : PySem.W.Frag} {mg : Str → Option Value} {base : Heap} {x qual : Str} {params : Arguments} {body : List Stmt} {scope : Scope} {dvs : List V} {kws : List (Str × V)} {f : Addr} {fd : FuncData} {N ps : List Str} {k : Nat} {sp : SpG} (F : FunD K x qual params body scope dvs kws f fd) (S : FnScope N ps scope)
    (len : ∀ g vs H Q E, sp g vs H Q E → vs.length = ps.length)
    (hbody : ∀ (cdv : Value) (A : Around) (outer : List Env) (s : Shared) (H : Hp) (vs : List V) (Q : VK) (E : XK) (g : List Code), A.guards = some g → Room k (A.deeper (envOfC qual scope s.heap.objs.size f cdv)) → sp g vs H Q E →
      ∃ t, PSs (cxOf CX0 P w K mg base N qual scope f cdv A outer s H E).nox body t ∧ t { nx := fun _ H' => Q .non H', rt := Q } (start N vs) H) : FnG P w K mg base CX0 (k + 1) f fd ps sp :=
  F.okG S len fun cdv A outer s H vs Q E g hg hr h => let ⟨t, h1, h2⟩ := hbody cdv A outer s H vs Q E g hg hr h; ⟨t, h1.nox, h2⟩
theorem kept_alikeN : ∀ {rows n1 n2 : List Row}, Paired KeptOf rows n1 → Paired KeptOf rows n2 → AlikeN n1 n2
  | _, _, _, .nil, .nil => .nil
  | _, _, _, .cons g t, .cons g2 t2 => .cons (kept_alike g g2) (kept_alikeN t t2)
theorem skof_alikeT {T : Int} : ∀ {md : List MdE} {s1 s2 : List SkE}, Paired (SkOfE T) md s1 → Paired (SkOfE T) md s2 → AlikeS s1 s2
  | _, _, _, .nil, .nil => .nil
  | _, _, _, .cons g t, .cons g2 t2 => .cons ⟨g.1.trans g2.1.symm, g.2.1.trans g2.2.1.symm, kept_alikeN g.2.2 g2.2.2⟩ (skof_alikeT t t2)
theorem skof_alike {md : List MdE} {s1 s2 : List SkE} (h1 : SkOf md s1) (h2 : SkOf md s2) : AlikeS s1 s2 := skof_alikeT h1 h2
structure KtE where
  a : Addr
  s : Addr
  sk : List SkE
  m : SkE
  t : Row
  ru : V
/-- a kept note as the law holds it: it shows what the rows show of its table -/
structure KtOk (K : Fg) (md : List MdE) (nm : Str) (rows : List Row) (H : Hp) (e : KtE) : Prop where
  kp : KpOf K H e.a e.s e.sk e.m (shownR rows e.t) e.ru
  of_ : SkOf md e.sk
  nm : e.m.1 = nm
  sh : ∀ t, shownR e.m.2.2 t = shownR rows t
theorem KtOk.mono {md : List MdE} {nm : Str} {rows : List Row} {H H' : Hp} {e : KtE} (s : Same H H') (h : KtOk K md nm rows H e) : KtOk K md nm rows H' e := ⟨h.kp.mono s, h.of_, h.nm, h.sh⟩
def KtR (K : Fg) (md : List MdE) (nm : Str) (rows : List Row) : Rl KtE := fun H v e => v = .ref e.a ∧ KtOk K md nm rows H e
theorem mn_Kt {md : List MdE} {nm : Str} {rows : List Row} : Mn (KtR K md nm rows) := fun _ _ _ _ s ⟨e, h⟩ => ⟨e, h.mono s⟩
def TbR : Rl KtE := fun H v e => RowR H v e.t
theorem mn_Tb : Mn TbR := fun _ _ _ _ s h => mn_Row _ _ _ _ s h
theorem each_kt {md : List MdE} {nm : Str} {rows : List Row} {H : Hp} : ∀ {es : List KtE}, (∀ e ∈ es, KtOk K md nm rows H e) → Each (KtR K md nm rows) H (es.map fun e => .ref e.a) es
  | [], _ => .nil
  | e :: es, h => .cons ⟨rfl, h e List.mem_cons_self⟩ (each_kt fun x hx => h x (List.mem_cons_of_mem _ hx))
theorem at_zip {α : Type} {as : List α} {i : Nat} {j : Int} {b : α} (h : ((iota 0 as.length).zip as)[i]? = some (j, b)) : j = ((i : Nat) : Int) ∧ as[i]? = some b := by
  rw [List.getElem?_zip_eq_some] at h
  obtain ⟨h1, h2⟩ := h
  refine ⟨?_, h2⟩
  unfold iota at h1
  rw [List.getElem?_map] at h1
  cases hr : (List.range as.length)[i]? with
  | none => rw [hr] at h1; exact nomatch h1
  | some k =>
    rw [hr] at h1
    obtain ⟨hk, e⟩ := List.getElem?_eq_some_iff.mp hr
    rw [List.getElem_range] at e
    have := Option.some.inj h1
    subst e
    have h3 : (0 : Int) + ((i : Nat) : Int) = j := this
    omega
theorem at_each {α : Type} {R : Rl α} {H : Hp} {xs : List V} {as : List α} (e : Each R H xs as) {i : Nat} {a : α} (h : as[i]? = some a) : ∃ x, xs[i]? = some x ∧ R H x a := by
  obtain ⟨hi, _⟩ := List.getElem?_eq_some_iff.mp h
  have hl := e.length
  have hx : xs[i]? = some (xs[i]'(by omega)) := List.getElem?_eq_getElem (by omega)
  obtain ⟨b, hb, r⟩ := e.get hx
  rw [h] at hb
  cases hb
  exact ⟨_, hx, r⟩
theorem ints_shaped (ns : List Int) : SeqAt.shaped (.tuple (ns.map PyData.int)) = true := by
  simp [SeqAt.shaped, PyData.canLay0, PyData.canLayAll0, PyData.depth, PyData.depthAll, PySem.W.ke_canLayAll0, PySem.W.ke_depthAll]
theorem ints_eqv (ns ms : List Int) : PyData.eqv (.tuple (ns.map PyData.int)) (.tuple (ms.map PyData.int)) = decide (ns = ms) := eqvAll_ints ns ms
theorem iteN {α : Type} [DecidableEq α] {x : α} {A B : Prop} (h : B) : if (!decide (x = x)) = true then A else B := by
  rw [decide_eq_true rfl]
  exact h
abbrev nAre : List Str := ["held", "tables", "name", "note", "whole", "shown", "table", "one", "k", "far", "other", "same"]
theorem sc_are : FnScope nAre ["held", "tables", "name", "note", "whole"] (defScope f__law_are_right) := ⟨rfl, rfl, rfl, by decide +kernel, rfl, by decide +kernel, by decide +kernel⟩
structure AreOk (K : Fg) (H : Hp) (h t wa : Addr) (nt : V) (nm : Str) (rows : List Row) (md : List MdE) (es : List KtE) : Prop where
  hh : H h = some (.lst (es.map fun e => .ref e.a))
  ht : ∃ ds, H t = some (.lst ds) ∧ Each TbR H ds es
  ok : ∀ e ∈ es, KtOk K md nm rows H e
  nt : RowsR K H nt rows
  rl : rows.length ≤ 100
  rs : ∀ r ∈ rows, SmallR szT r
  ts : ∀ e ∈ es, SmallT szT e.t
  is : ∀ e ∈ es, SmallI (shownR rows e.t)
  wh : ∃ sk, SkA K H wa sk ∧ SkOf md sk
  len : es.length ≤ 10
def spAre (K : Fg) : SpG := fun g vs H Q _ => g = [] ∧ ∃ (h t wa : Addr) (nt : V) (nm : Str) (rows : List Row) (md : List MdE) (es : List KtE), vs = [.ref h, .ref t, .str nm, nt, .ref wa] ∧ AreOk K H h t wa nt nm rows md es ∧ ∀ H', Same H H' → Q (.bl true) H'
def HasGd (P : Program) (w : World) (K : Fg) (mg : Str → Option Value) (base : Heap) (k : Nat) (x : Str) (ps : List Str) (sp : SpG) : Prop :=
  ∃ f fd, mg x = some (.ref f) ∧ FnG P w K mg base CX0 k f fd ps sp ∧ PySem.W.keepIn K (.ref f) = true ∧ Binds K fd ps []
theorem has_are (e : Ev K mg) : HasGd P w K mg base 9 "_law_are_right" ["held", "tables", "name", "note", "whole"] (spAre K) := by
  obtain ⟨fd, F⟩ := e.F_f__law_are_right
  refine ⟨_, fd, e.g__law_are_right, ?_, F.kp, F.bindsN fun _ _ _ _ _ _ us hl => match us, hl with | [_, _, _, _, _], _ => rfl⟩
  obtain ⟨f1', d1, m1, G1, k1, b1⟩ := has_lshown (P := P) (w := w) (base := base) e
  obtain ⟨d2, p2, G2, b2⟩ := hasP_shown (P := P) (w := w) (base := base) e
  obtain ⟨d3, p3, G3, b3⟩ := hasP_seed (P := P) (w := w) (base := base) e
  obtain ⟨d4, p4, G4, b4⟩ := hasP_sketch (P := P) (w := w) (base := base) e
  obtain ⟨d5, M5, G5, b5⟩ := hasM_SEq (P := P) (w := w) (base := base) e
  obtain ⟨d6, M6, G6, b6⟩ := hasM_KEq (P := P) (w := w) (base := base) e
  refine F.okGD sc_are (fun g vs H Q E h => ?_) (fun cdv A outer s H vs Q E g hg hr h => ?_)
  · obtain ⟨_, h, t, wa, nt, nm, rows, md, es, rfl, _⟩ := h; rfl
  · obtain ⟨rfl, h, t, wa, nt, nm, rows, md, es, rfl, R, q⟩ := h
    have hgs := (deeper_guards A (envOfC "_law_are_right" (defScope f__law_are_right) s.heap.objs.size (fAd K ("_law_are_right", none)) cdv)).trans hg
    have hr1 := hr.mono (show 1 ≤ 8 by decide)
    have hr2 := hr.mono (show 2 ≤ 8 by decide)
    have hr3 := hr.mono (show 3 ≤ 8 by decide)
    have hr7 := hr.mono (show 7 ≤ 8 by decide)
    refine ⟨_, pss_cons (ps_setLc (i := 5) (own := [("table", 6)]) (g := gName 6) (tt := tYes) rfl sc_are.nd rfl rfl (sw_true rfl rfl rfl (by decide +kernel)) (pi_list (pv 1)) (blkOk_by (N := nAre) (sc := defScope f__law_are_right) (by decide +kernel))
        (fun _ _ _ _ _ => pg_name (i := 6) sc_are.nd rfl (Or.inl rfl)) (fun _ _ _ _ _ => pts_nil) (fun _ _ _ _ _ => pe_call G1 hr1 rfl m1 k1 b1 .nil pass0 (pa_cons (pv 3) (pa_cons (pv 6) pa_nil))))
      (pss_cons (ps_if (PW.pt (pw_or (pt_cmpR op_ne (pe_callB (call_reprL (k := 1) (g := []) hgs hr3) rfl e.b_repr boot_repr (pa_cons (pe_lc (own := [("one", 7)]) (g := gName 7) (tt := tYes) rfl sc_are.nd (pi_list (pv 0)) (blkOk_by (N := nAre) (sc := defScope f__law_are_right) (by decide +kernel))
            (fun _ _ _ _ _ => pg_name (i := 7) sc_are.nd rfl (Or.inl rfl)) (fun _ _ _ _ _ => pts_nil) (fun _ _ _ _ _ => pe_prop (pv 7) e.cl_Kept p2 G2 hr2 b2 .nil pass0 rfl)) pa_nil))
          (pe_callB (call_reprL (k := 1) (g := []) hgs hr3) rfl e.b_repr boot_repr (pa_cons (pv 5) pa_nil)) (nomark _))
          (pw_or1 (pt_val (pe_callB (cr_any rfl) rfl e.b_any (by decide +kernel) (pa_cons (pe_lc (own := [("one", 7)]) (g := gName 7) (tt := tYes) rfl sc_are.nd (pi_list (pv 0)) (blkOk_by (N := nAre) (sc := defScope f__law_are_right) (by decide +kernel))
            (fun _ _ _ _ _ => pg_name (i := 7) sc_are.nd rfl (Or.inl rfl)) (fun _ _ _ _ _ => pts_nil) (fun _ _ _ _ _ => pe_cmpR op_ne (pe_prop (pv 7) e.cl_Kept p3 G3 hr2 b3 .nil pass0 rfl) (pv 2) (nomark _))) pa_nil)))))) (pss_one (ps_ret pe_bl)) pss_nil)
      (pss_cons (ps_if (pt_val (pe_callB (cr_any rfl) rfl e.b_any (by decide +kernel) (pa_cons (pe_lc (own := [("one", 7)]) (g := gName 7) (tt := tYes) rfl sc_are.nd (pi_list (pv 0)) (blkOk_by (N := nAre) (sc := defScope f__law_are_right) (by decide +kernel))
            (fun _ _ _ _ _ => pg_name (i := 7) sc_are.nd rfl (Or.inl rfl)) (fun _ _ _ _ _ => pts_nil) (fun _ _ _ _ _ => pe_cmpR (op_neO G5 hr7 e.ty_Sketch e.ne_Sketch M5.at_ M5.fn b5) (pe_prop (pv 7) e.cl_Kept p4 G4 hr2 b4 .nil pass0 rfl) (pv 4) (nomark _))) pa_nil))) (pss_one (ps_ret pe_bl)) pss_nil)
      (pss_cons (ps_for (g := gTup K 2 _) PassesOwn.never rfl (pi_enum rfl e.b_enumerate (pa_cons (pv 0) pa_nil)) (pg_tup rfl (pgs_cons (pg_name (i := 8) sc_are.nd rfl (Or.inl rfl)) (pgs_cons (pg_name (i := 7) sc_are.nd rfl (Or.inl rfl)) pgs_nil)))
        (pss_one (ps_for (g := gTup K 2 _) PassesOwn.never rfl (pi_enum rfl e.b_enumerate (pa_cons (pv 0) pa_nil)) (pg_tup rfl (pgs_cons (pg_name (i := 9) sc_are.nd rfl (Or.inl rfl)) (pgs_cons (pg_name (i := 10) sc_are.nd rfl (Or.inl rfl)) pgs_nil)))
          (pss_cons (ps_set (i := 11) sc_are.nd rfl (Or.inl rfl) (pe_cmpR (op_eqD hr.units) (pe_ix ix_list (pv 5) (pv 8) (fun _ _ => rfl)) (pe_ix ix_list (pv 5) (pv 9) (fun _ _ => rfl)) (nomark _)))
          (pss_one (ps_if (pt_cmpR op_ne (pe_callB (call_reprL (k := 1) (g := []) hgs hr3) rfl e.b_repr boot_repr (pa_cons (pe_lst (pa_cons (pe_cmpR (op_eqO G6 hr7 M6.at_ M6.fn b6) (pv 7) (pv 10) (nomark _)) (pa_cons (pe_cmpR (op_neO G6 hr e.ty_Kept e.ne_Kept M6.at_ M6.fn b6) (pv 7) (pv 10) (nomark _)) pa_nil))) pa_nil))
              (pe_callB (call_reprL (k := 1) (g := []) hgs hr3) rfl e.b_repr boot_repr (pa_cons (pe_lst (pa_cons (pv 11) (pa_cons (pe_not (pv 11)) pa_nil))) pa_nil)) (nomark _)) (pss_one (ps_ret pe_bl)) pss_nil))))))
      (pss_one (ps_ret pe_bl))))), ?_⟩
    obtain ⟨ds, hds, hed⟩ := R.ht
    have hnE : es.length < sizeLine := small1000 (by have := R.len; omega)
    have hkt := each_kt R.ok
    have hQ : ∀ H', Same H H' → Q (.bl true) H' := q
    refine ⟨_, rfl, t, rfl, ⟨_, SqL.of hds⟩, fun D hD => ?_⟩
    refine lc_src (src_list mn_Tb hed) isTI (fun e => shownR rows e.t) (fun _ => true) ⟨Same.refl _, SqL.of hds⟩ hD hnE ?_ ?_
    · intro i b x H2 acc Nx hb s2 _ hx hD2 hl2 _ _ kT
      have hb' : b ∈ es := List.mem_of_getElem? hb
      refine ⟨rfl, tYes_of ?_⟩
      refine ⟨_, rfl, _, rfl, nt, x, rows, b.t, rfl, mn_Rows _ _ _ _ s2 R.nt, RowR.l hx, R.rl, R.rs, R.ts b hb', fun T H3 s3 hT => ?_⟩
      have hD3 := s3 _ _ hD2
      refine ⟨acc, hD3, hl2, kT rfl _ _ s3 fun H5 b5 => ⟨T, rfl, b5 _ _ (fun z => by subst z; rw [hT] at hD3; exact nomatch hD3) hT⟩⟩
    intro H2 ys2 s2 hy2 he2
    have he2' := he2 H2 fun _ _ _ z => z
    rw [filt] at he2'
    generalize hns : es.map (fun e => shownR rows e.t) = nss at he2'
    have hsm : ∀ ns ∈ nss, SmallI ns := fun ns hn => by
      rw [← hns] at hn
      obtain ⟨e', he', rfl⟩ := List.mem_map.mp hn
      exact R.is e' he'
    have hnl : nss.length ≤ 10 := by rw [← hns, List.length_map]; exact R.len
    have hkt2 := hkt.mono mn_Kt s2
    -- repr
    have hkt2' : ∀ e ∈ es, KtOk K md nm rows H2 e := fun e he => (R.ok e he).mono s2
    refine ⟨_, rfl, h, rfl, ⟨_, SqL.of (s2 _ _ R.hh)⟩, fun D2 hD2 => ?_⟩
    refine lc_src (src_list mn_Kt hkt2) isTI (fun e => shownR rows e.t) (fun _ => true) ⟨Same.refl _, SqL.of (s2 _ _ R.hh)⟩ hD2 hnE ?_ ?_
    · intro i b x H3 acc Nx hb s3 _ ⟨ex, hx⟩ hD3 hl3 _ _ kT
      subst ex
      obtain ⟨dx, st, sh, h1, h2, h3⟩ := id hx.kp.kp
      refine ⟨rfl, tYes_of ?_⟩
      refine ⟨_, rfl, b.a, dx, _, rfl, h1, b.a, b.s, _, _, _, rfl, hx.kp.kp, fun T hT => ?_⟩
      refine ⟨acc, hD3, hl3, kT rfl _ _ (Same.refl _) fun H5 b5 => ⟨T, rfl, b5 _ _ (fun z => by subst z; rw [hT] at hD3; exact nomatch hD3) hT⟩⟩
    intro H3 ys3 s3 hy3 he3
    have he3' := he3 H3 fun _ _ _ z => z
    rw [filt, hns] at he3'
    refine ⟨.ref D2, _, rfl, showL_tups hy3 he3' hnl hsm, fun H4 s4 => ?_⟩
    refine ⟨_, rfl, .ref D, _, rfl, showL_tups ((s3.trans s4) _ _ hy2) (he2'.mono mn_TI (s3.trans s4)) hnl hsm, fun H5 s5 => ?_⟩
    have s25 := s3.trans (s4.trans s5)
    refine ⟨rfl, _, rfl, ?_⟩
    rw [decide_eq_true (show V.str (listText (nss.map tiTx)) = V.str (listText (nss.map tiTx)) from rfl)]
    refine iteF ?_
    have hh5 := (s2.trans s25) _ _ R.hh
    refine ⟨_, rfl, h, rfl, ⟨_, SqL.of hh5⟩, fun D3 hD3 => ?_⟩
    refine lc_src (src_list mn_Kt (hkt2.mono mn_Kt s25)) (fun _ v b => v = V.bl b) (fun e => false) (fun _ => true) ⟨Same.refl _, SqL.of hh5⟩ hD3 hnE ?_ ?_
    · intro i b x H6 acc Nx hb s6 _ ⟨ex, hx⟩ hD6 hl6 _ _ kT
      subst ex
      obtain ⟨dx, st, sh, h1, h2, h3⟩ := id hx.kp.kp
      refine ⟨rfl, tYes_of ?_⟩
      refine ⟨_, rfl, b.a, dx, _, rfl, h1, b.a, b.s, _, _, _, rfl, hx.kp.kp, ?_⟩
      refine ⟨_, rfl, rfl, ?_⟩
      rw [hx.nm, decide_eq_true (show V.str nm = V.str nm from rfl)]
      refine ⟨acc, hD6, hl6, kT rfl _ _ (Same.refl _) fun H5 b5 => rfl⟩
    intro H6 ys6 s6 hy6 he6
    have ey6 := (he6 H6 fun _ _ _ z => z).eq_map V.bl (fun _ _ z => z)
    rw [filt] at ey6
    refine ⟨D3, _, rfl, SqL.of (by rw [hy6, ey6]), ?_⟩
    have s06 := s2.trans (s25.trans s6)
    have eAny : ∀ l : List KtE, (l.map fun _ => false).any id = false := fun l => by
      rw [List.any_eq_false]
      intro x hx
      obtain ⟨_, _, rfl⟩ := List.mem_map.mp hx
      simp
    rw [eAny]
    refine ⟨false, rfl, iteF ?_⟩
    -- the sketches
    obtain ⟨wsk, hwsk, hwof⟩ := R.wh
    have hh6 := s06 _ _ R.hh
    refine ⟨_, rfl, h, rfl, ⟨_, SqL.of hh6⟩, fun D4 hD4 => ?_⟩
    refine lc_src (src_list mn_Kt (hkt.mono mn_Kt s06)) (fun _ v b => v = V.bl b) (fun e => false) (fun _ => true) ⟨Same.refl _, SqL.of hh6⟩ hD4 hnE ?_ ?_
    · intro i b x H7 acc Nx hb s7 _ ⟨ex, hx⟩ hD7 hl7 _ _ kT
      subst ex
      obtain ⟨dx, st, sh, h1, h2, h3⟩ := id hx.kp.kp
      have hwa := mn_SkA (s06.trans s7) hwsk
      obtain ⟨dz, d, ks, hza, _⟩ := id hx.kp.hsk
      obtain ⟨dw, d', ls, hwb, _⟩ := id hwa
      refine ⟨rfl, tYes_of ?_⟩
      refine ⟨_, rfl, b.a, dx, _, rfl, h1, b.a, b.s, _, _, _, rfl, hx.kp.kp, ?_⟩
      refine ⟨_, rfl, b.s, wa, dz, dw, _, _, rfl, rfl, hza, hwb, b.s, wa, rfl, ⟨_, _, hx.kp.hsk, hwa, skof_alike hx.of_ hwof⟩, fun H8 s8 => ⟨true, rfl, ?_⟩⟩
      refine ⟨acc, s8 _ _ hD7, hl7, kT rfl _ _ s8 fun H5 b5 => rfl⟩
    intro H7 ys7 s7 hy7 he7
    have ey7 := (he7 H7 fun _ _ _ z => z).eq_map V.bl (fun _ _ z => z)
    rw [filt] at ey7
    refine ⟨D4, _, rfl, SqL.of (by rw [hy7, ey7]), ?_⟩
    have s07 := s06.trans s7
    rw [eAny]
    refine ⟨false, rfl, iteF ?_⟩
    -- each with each
    have hh7 := s07 _ _ R.hh
    have s27 : Same H2 H7 := s25.trans (s6.trans s7)
    have hD07 : H7 D = some (.lst ys2) := s27 _ _ hy2
    have he07 : Each isTI H7 ys2 nss := he2'.mono mn_TI s27
    have hkt7 := hkt.mono mn_Kt s07
    refine ⟨_, rfl, h, _, rfl, SqL.of hh7, ?_⟩
    refine for_src (src_enum mn_Kt hkt7) (fun i σ H8 => ∃ x6 x7 x8 x9 x10 x11, σ = [some (.ref h), some (.ref t), some (.str nm), some nt, some (.ref wa), some (.ref D), x6, x7, x8, x9, x10, x11] ∧ Same H7 H8)
      ⟨_, _, _, _, _, _, rfl, Same.refl _⟩ (fun i σ H8 ⟨x6, x7, x8, x9, x10, x11, e1, s8⟩ => ⟨s8, SqL.of (s8 _ _ hh7)⟩) ?_ ?_
    · rintro i ⟨j, b⟩ y σ H8 H9 hb hi ⟨x6, x7, x8, x9, x10, x11, rfl, s8⟩ s9 ⟨T, y1, y2, rfl, hT, e1, ⟨ex, hx⟩⟩
      obtain rfl : y1 = .int j := e1
      subst ex
      refine ⟨T, _, rfl, SqT.of hT, rfl, _, _, rfl, _, _, rfl, rfl, ?_⟩
      have hij := at_zip hb
      have s79 := s8.trans s9
      refine ⟨_, rfl, h, _, rfl, SqL.of (s79 _ _ hh7), ?_⟩
      refine for_src (src_enum mn_Kt (hkt7.mono mn_Kt s79)) (fun i2 σ Ha => ∃ x9 x10 x11, σ = [some (.ref h), some (.ref t), some (.str nm), some nt, some (.ref wa), some (.ref D), x6, some (.ref b.a), some (.int j), x9, x10, x11] ∧ Same H9 Ha)
        ⟨_, _, _, rfl, Same.refl _⟩ (fun i2 σ Ha ⟨x9, x10, x11, e1, sa⟩ => ⟨sa, SqL.of (sa _ _ (s79 _ _ hh7))⟩) ?_ ?_
      · rintro i2 ⟨j2, b2⟩ z σ Ha Hb hb2 hi2 ⟨x9, x10, x11, rfl, sa⟩ sb ⟨U, z1, z2, rfl, hU, e2, ⟨ez, hz⟩⟩
        obtain rfl : z1 = .int j2 := e2
        subst ez
        refine ⟨U, _, rfl, SqT.of hU, rfl, _, _, rfl, _, _, rfl, rfl, ?_⟩
        have hij2 := at_zip hb2
        have s9b := sa.trans sb
        have s7b := s79.trans s9b
        have hxb := hx.mono s9b
        obtain ⟨n1, hn1, T1, eT1, hT1⟩ := at_each (he07.mono mn_TI s7b) (show nss[i]? = some (shownR rows b.t) by rw [← hns, List.getElem?_map, hij.2]; rfl)
        obtain ⟨n2, hn2, T2, eT2, hT2⟩ := at_each (he07.mono mn_TI s7b) (show nss[i2]? = some (shownR rows b2.t) by rw [← hns, List.getElem?_map, hij2.2]; rfl)
        subst eT1 eT2
        have hDb := s7b _ _ hD07
        refine ⟨_, rfl, _, rfl, D, _, _, _, rfl, rfl, SqL.of hDb, (by rw [hij.1]; exact atI_nat hn1), ?_⟩
        refine ⟨_, rfl, _, rfl, D, _, _, _, rfl, rfl, SqL.of hDb, (by rw [hij2.1]; exact atI_nat hn2), ?_⟩
        refine ⟨_, _, .tup (SqT.of hT1) (dp_ints _), .tup (SqT.of hT2) (dp_ints _), ints_shaped _, ints_shaped _, ?_⟩
        rw [ints_eqv]
        generalize hB : decide (shownR rows b.t = shownR rows b2.t) = B
        obtain ⟨dx, st1, sh1, h1, _⟩ := id hxb.kp.kp
        obtain ⟨dy, st2, sh2, k1, _⟩ := id hz.kp.kp
        have hsq : SkEq K b.s b2.s Hb := ⟨_, _, hxb.kp.hsk, hz.kp.hsk, skof_alike hxb.of_ hz.of_⟩
        have eB : KpEqB b.m.1 b2.m.1 (shownR rows b.t) (shownR rows b2.t) = B := by
          unfold KpEqB
          rw [hxb.nm, hz.nm, hB, decide_eq_true rfl, Bool.true_and]
        refine ⟨_, rfl, _, rfl, b.a, b2.a, dx, dy, _, _, rfl, rfl, h1, k1, b.a, b2.a, b.s, b2.s, _, _, _, _, _, _, rfl, hxb.kp.kp, hz.kp.kp, hsq, hxb.kp.key, hz.kp.key, fun Hc sc => ⟨B, by rw [eB], ?_⟩⟩
        have hxc := hxb.mono sc
        have hzc := hz.mono sc
        obtain ⟨dx, st1, sh1, h1, _⟩ := id hxc.kp.kp
        obtain ⟨dy, st2, sh2, k1, _⟩ := id hzc.kp.kp
        refine ⟨_, rfl, _, rfl, b.a, b2.a, dx, dy, _, _, rfl, rfl, h1, k1, b.a, b2.a, b.s, b2.s, _, _, _, _, _, _, rfl, hxc.kp.kp, hzc.kp.kp, ⟨_, _, hxc.kp.hsk, hzc.kp.hsk, skof_alike hxc.of_ hzc.of_⟩, hxc.kp.key, hzc.kp.key, fun Hd sd => ⟨B, by rw [eB], ?_⟩⟩
        refine ⟨(by show 2 ≤ sizeLine; decide), fun p hp => ?_⟩
        have sp1 := same_upd (o := .lst [.bl B, .bl (!B)]) hp
        refine ⟨.ref p, _, rfl, showL_flat upd_same (.cons (rpf_bl B) (.cons (rpf_bl (!B)) .nil)) (by cases B <;> decide), fun He se => ?_⟩
        refine ⟨_, rfl, _, rfl, B, rfl, (by show 2 ≤ sizeLine; decide), fun p2 hp2 => ?_⟩
        have sp2 := same_upd (o := .lst [.bl B, .bl (!B)]) hp2
        refine ⟨.ref p2, _, rfl, showL_flat upd_same (.cons (rpf_bl B) (.cons (rpf_bl (!B)) .nil)) (by cases B <;> decide), fun Hf sf => ?_⟩
        refine ⟨rfl, _, rfl, ?_⟩
        refine iteN ?_
        exact ⟨_, _, _, rfl, s9b.trans (sc.trans (sd.trans (sp1.trans (se.trans (sp2.trans sf)))))⟩
      · rintro σ Ha ⟨x9, x10, x11, rfl, sa⟩
        exact ⟨_, _, _, _, _, _, rfl, s79.trans sa⟩
    · rintro σ H8 ⟨x6, x7, x8, x9, x10, x11, rfl, s8⟩
      exact hQ _ (s07.trans s8)
end NG

set_option Elab.async false
set_option linter.all false
set_option maxRecDepth 100000
set_option maxHeartbeats 400000
/-! _law_turned -/
namespace NG
open PySem PySem.Spec PyProof.Rows L2 He
variable {P : Program} {w : World} {K : Fg} {mg : Str → Option Value} {base : Heap}
def zz9 : Str := "zzzz9"
/-- a table of the law's -/
structure TabOk (ks : List Str) (M : Nat) (t : Row) : Prop where
  nd : (t.map (·.1)).Nodup
  mem : ∀ k ∈ t.map (·.1), k ∈ ks ++ [zz9]
  sm : ∀ k, (atR t k).natAbs ≤ M
theorem TabOk.len {ks : List Str} {M : Nat} {t : Row} (h : TabOk ks M t) : t.length ≤ ks.length + 1 := by
  by_cases hl : t.length ≤ ks.length + 1
  · exact hl
  · obtain ⟨x, hx, hn⟩ := pigeon (l := t.map (·.1)) (m := ks ++ [zz9]) h.nd (by rw [List.length_map, List.length_append]; simp; omega)
    exact absurd (h.mem x hx) hn
theorem TabOk.le {ks : List Str} {M M' : Nat} {t : Row} (h : TabOk ks M t) (l : M ≤ M') : TabOk ks M' t := ⟨h.nd, h.mem, fun k => Nat.le_trans (h.sm k) l⟩
theorem TabOk.nil {ks : List Str} {M : Nat} : TabOk ks M [] := ⟨List.nodup_nil, fun k hk => by simp at hk, fun k => by show (0 : Int).natAbs ≤ M; simp⟩
theorem addR_mem : ∀ (o t : Row) (k : Str), k ∈ (addR t o).map (·.1) → k ∈ t.map (·.1) ∨ k ∈ o.map (·.1)
  | [], t, k, h => .inl h
  | p :: o, t, k, h => by
    rcases addR_mem o (putR t p.1 (atR t p.1 + p.2)) k h with h | h
    · rw [putR_keys] at h
      split at h
      · exact .inl h
      · rcases List.mem_append.mp h with h | h
        · exact .inl h
        · obtain rfl : k = p.1 := by simpa using h
          exact .inr (by simp)
    · exact .inr (by rw [List.map_cons]; exact List.mem_cons_of_mem _ h)
theorem TabOk.add {ks : List Str} {M M' : Nat} {t o : Row} (h : TabOk ks M t) (g : TabOk ks M' o) : TabOk ks (M + M') (addR t o) := by
  refine ⟨addR_nodup o t h.nd, fun k hk => ?_, fun k => ?_⟩
  · rcases addR_mem o t k hk with hk | hk
    · exact h.mem k hk
    · exact g.mem k hk
  · rw [atR_addR o t k g.nd]
    have := h.sm k
    have := g.sm k
    omega
theorem atR_le {M : Nat} : ∀ {r : Row}, (∀ p ∈ r, p.2.natAbs ≤ M) → ∀ k, (atR r k).natAbs ≤ M
  | [], _, k => by show (0 : Int).natAbs ≤ M; simp
  | p :: r, h, k => by
    rw [atR_cons]
    split
    · exact h p List.mem_cons_self
    · exact atR_le (fun q hq => h q (List.mem_cons_of_mem _ hq)) k
theorem GoodRow.tab {ks : List Str} {m : Nat} {r : Row} (h : GoodRow m ks r) : TabOk ks m r := ⟨h.1, fun k hk => List.mem_append_left _ (h.2.1 k hk), atR_le h.2.2⟩
theorem TabOk.one {ks : List Str} {k : Str} {n : Int} {M : Nat} (hk : k ∈ ks ++ [zz9]) (hn : n.natAbs ≤ M) : TabOk ks M [(k, n)] :=
  ⟨by simp, fun x hx => by obtain rfl : x = k := by simpa using hx
                           exact hk, atR_le fun p hp => by rw [List.mem_singleton.mp hp]; exact hn⟩
/-- what stays of a kept note -/
structure KtS (K : Fg) (Hb : Hp) (md : List MdE) (nm : Str) (rows : List Row) (e : KtE) : Prop where
  hsk : SkA K Hb e.s e.sk
  nd : (e.sk.map (·.1)).Nodup
  mem : e.m ∈ e.sk
  key : keyS e.m.1 = true
  sm : SmallN e.m.2.2
  len : e.m.2.2.length = rows.length
  of_ : SkOf md e.sk
  nm : e.m.1 = nm
  sh : ∀ t, shownR e.m.2.2 t = shownR rows t
structure TnOk (K : Fg) (Hb H : Hp) (h t u : Addr) (nm : Str) (rows : List Row) (md : List MdE) (ks : List Str) (M : Nat) (Pr : V → Prop) (es : List KtE) : Prop where
  sub : Same Hb H
  fh : Hb h = none
  ft : Hb t = none
  fu : Hb u = none
  htu : h ≠ t ∧ h ≠ u ∧ t ≠ u
  hh : H h = some (.lst (es.map fun e => .ref e.a))
  ht : ∃ ds, H t = some (.lst ds) ∧ Each TbR H ds es
  hu : H u = some (.lst (es.map fun e => e.ru))
  kp : ∀ e ∈ es, KpA K H e.a e.s e.m.1 (shownR rows e.t) e.ru
  fe : ∀ e ∈ es, Hb e.a = none
  st : ∀ e ∈ es, KtS K Hb md nm rows e
  nd : (es.map (·.a)).Nodup
  tb : ∀ e ∈ es, TabOk ks M e.t
  pr : ∀ e ∈ es, Pr e.ru
  len : es.length = 3
theorem TnOk.kpOf {Hb H : Hp} {h t u : Addr} {nm : Str} {rows : List Row} {md : List MdE} {ks : List Str} {M : Nat} {Pr : V → Prop} {es : List KtE} (T : TnOk K Hb H h t u nm rows md ks M Pr es) {e : KtE} (he : e ∈ es) : KpOf K H e.a e.s e.sk e.m (shownR rows e.t) e.ru :=
  let S := T.st e he
  ⟨T.kp e he, mn_SkA T.sub S.hsk, S.nd, S.mem, S.key, S.sm, by rw [shownR_len, S.len]⟩
theorem TnOk.same {Hb H H' : Hp} {h t u : Addr} {nm : Str} {rows : List Row} {md : List MdE} {ks : List Str} {M : Nat} {Pr : V → Prop} {es : List KtE} (T : TnOk K Hb H h t u nm rows md ks M Pr es) (s : Same H H') : TnOk K Hb H' h t u nm rows md ks M Pr es :=
  ⟨T.sub.trans s, T.fh, T.ft, T.fu, T.htu, s _ _ T.hh, let ⟨ds, h1, h2⟩ := T.ht; ⟨ds, s _ _ h1, h2.mono mn_Tb s⟩, s _ _ T.hu, fun e he => (T.kp e he).mono s, T.fe, T.st, T.nd, T.tb, T.pr, T.len⟩
theorem nodup_inj {α : Type} {l : List α} (h : l.Nodup) {i j : Nat} (hi : i < l.length) (hj : j < l.length) (e : l[i] = l[j]) : i = j := by
  rcases Nat.lt_trichotomy i j with g | g | g
  · exact absurd e (List.pairwise_iff_getElem.mp h i j hi hj g)
  · exact g
  · exact absurd e.symm (List.pairwise_iff_getElem.mp h j i hj hi g)
theorem each_set {α : Type} {R : Rl α} {H : Hp} : ∀ {xs : List V} {as : List α} (k : Nat) {v : V} {a : α}, Each R H xs as → R H v a → Each R H (xs.set k v) (as.set k a)
  | _, _, k, _, _, .nil, _ => by simp; exact .nil
  | _, _, 0, _, _, .cons r t, h => .cons h t
  | _, _, k + 1, _, _, .cons r t, h => .cons r (each_set k t h)
/-- one kept note is put -/
theorem TnOk.put {Hb H H' : Hp} {h t u : Addr} {nm : Str} {rows : List Row} {md : List MdE} {ks : List Str} {M M' : Nat} {Pr : V → Prop} {es : List KtE} (T : TnOk K Hb H h t u nm rows md ks M Pr es) {k : Nat} (hk : k < 3) {e' : KtE}
    (fa : ∀ o, H e'.a = some o → ∃ C dx fs, o = .ins C dx fs) (fr : ∀ c o, c ≠ h → c ≠ t → c ≠ u → c ≠ e'.a → H c = some o → H' c = some o)
    (hh : H' h = some (.lst ((es.set k e').map fun e => .ref e.a)))
    (ht : ∃ ds v, H t = some (.lst ds) ∧ H' t = some (.lst (ds.set k v)) ∧ RowR H' v e'.t)
    (hu : H' u = some (.lst ((es.set k e').map fun e => e.ru)))
    (kp : KpA K H' e'.a e'.s e'.m.1 (shownR rows e'.t) e'.ru) (fe : Hb e'.a = none) (st : KtS K Hb md nm rows e') (nd : ((es.set k e').map (·.a)).Nodup) (tb : TabOk ks M' e'.t) (hM : M ≤ M') (pr : Pr e'.ru) :
    TnOk K Hb H' h t u nm rows md ks M' Pr (es.set k e') := by
  have hkl : k < es.length := by rw [T.len]; exact hk
  have mem : ∀ e ∈ es.set k e', e = e' ∨ (e ∈ es ∧ e.a ≠ e'.a) := fun e he => by
    obtain ⟨j, hj, ej⟩ := List.mem_iff_getElem.mp he
    by_cases hjk : j = k
    · subst hjk
      rw [List.getElem_set_self] at ej
      exact .inl ej.symm
    · have hj' : j < es.length := by rw [List.length_set] at hj; exact hj
      right
      have e1 : es[j] = e := by rw [List.getElem_set_ne (fun z => hjk z.symm)] at ej; exact ej
      refine ⟨by rw [← e1]; exact List.getElem_mem hj', fun z => hjk ?_⟩
      have hk2 : k < ((es.set k e').map (·.a)).length := by rw [List.length_map, List.length_set]; exact hkl
      have hj2 : j < ((es.set k e').map (·.a)).length := by rw [List.length_map]; exact hj
      refine nodup_inj nd hj2 hk2 ?_
      rw [List.getElem_map, List.getElem_map, ej, List.getElem_set_self]
      exact z
  have fr2 : ∀ {c : Addr} {o : HO}, (∀ xs, o ≠ .lst xs) → (∀ C dx fs, o ≠ .ins C dx fs) → H c = some o → H' c = some o := fun {c o} n1 n2 hc => by
    obtain ⟨ds, v, h1, _⟩ := ht
    refine fr c o (fun z => ?_) (fun z => ?_) (fun z => ?_) (fun z => ?_) hc
    · subst z; rw [T.hh] at hc; exact n1 _ (Option.some.inj hc).symm
    · subst z; rw [h1] at hc; exact n1 _ (Option.some.inj hc).symm
    · subst z; rw [T.hu] at hc; exact n1 _ (Option.some.inj hc).symm
    · subst z
      obtain ⟨C, dx, fs, e⟩ := fa o hc
      exact n2 _ _ _ e
  obtain ⟨ds, hds, hed⟩ := T.ht
  obtain ⟨ds', v, h1, h2, hv⟩ := ht
  rw [hds] at h1
  cases h1
  refine ⟨fun c o hc => ?_, T.fh, T.ft, T.fu, T.htu, hh, ⟨_, h2, each_set k (hed.imp fun x e _ ⟨d, ed, hd⟩ => ⟨d, ed, fr2 (fun _ z => nomatch z) (fun _ _ _ z => nomatch z) hd⟩) hv⟩, hu, fun e he => ?_, fun e he => ?_, fun e he => ?_, nd, fun e he => ?_, fun e he => ?_, by rw [List.length_set]; exact T.len⟩
  · exact fr c o (fun z => by subst z; rw [T.fh] at hc; exact nomatch hc) (fun z => by subst z; rw [T.ft] at hc; exact nomatch hc) (fun z => by subst z; rw [T.fu] at hc; exact nomatch hc) (fun z => by subst z; rw [fe] at hc; exact nomatch hc) (T.sub _ _ hc)
  · rcases mem e he with rfl | ⟨he, hne⟩
    · exact kp
    · obtain ⟨dx, st, sh, h1, h2', h3⟩ := T.kp e he
      refine ⟨dx, st, sh, fr _ _ (fun z => ?_) (fun z => ?_) (fun z => ?_) hne h1, fr2 (fun _ z => nomatch z) (fun _ _ _ z => nomatch z) h2', fr2 (fun _ z => nomatch z) (fun _ _ _ z => nomatch z) h3⟩
      · rw [z, T.hh] at h1; exact nomatch h1
      · rw [z, hds] at h1; exact nomatch h1
      · rw [z, T.hu] at h1; exact nomatch h1
  · rcases mem e he with rfl | ⟨he, hne⟩
    · exact fe
    · exact T.fe e he
  · rcases mem e he with rfl | ⟨he, hne⟩
    · exact st
    · exact T.st e he
  · rcases mem e he with rfl | ⟨he, hne⟩
    · exact tb
    · exact (T.tb e he).le hM
  · rcases mem e he with rfl | ⟨he, hne⟩
    · exact pr
    · exact T.pr e he
/-- a kept note is changed, then its table is put -/
theorem TnOk.putT {Hb H H' H'' : Hp} {h t u : Addr} {nm : Str} {rows : List Row} {md : List MdE} {ks : List Str} {M M' : Nat} {Pr : V → Prop} {es : List KtE} (T : TnOk K Hb H h t u nm rows md ks M Pr es) {k : Nat} {e : KtE} (he : es[k]? = some e) {t' : Row} {ds : List V} {v : V}
    (b1 : But e.a H H') (kp : KpA K H' e.a e.s e.m.1 (shownR rows t') e.ru) (s2 : Same H' H'') (hds : H t = some (.lst ds)) (hv : RowR H'' v t') (tb : TabOk ks M' t') (hM : M ≤ M') :
    TnOk K Hb (upd H'' t (.lst (ds.set k v))) h t u nm rows md ks M' Pr (es.set k { e with t := t' }) := by
  have hk : k < 3 := by rw [← T.len]; exact (List.getElem?_eq_some_iff.mp he).1
  have hm : e ∈ es := List.mem_of_getElem? he
  have hk1 : k < es.length := by rw [T.len]; exact hk
  have hek : es[k] = e := by
    have := List.getElem?_eq_getElem hk1
    rw [he] at this
    exact (Option.some.inj this).symm
  have same : ∀ {β : Type} (f : KtE → β), f { e with t := t' } = f e → (es.set k { e with t := t' }).map f = es.map f := fun f hf => by
    rw [List.map_set, hf, ← hek, ← List.getElem_map (h := by rw [List.length_map]; exact hk1) f, List.set_getElem_self]
  obtain ⟨dx, st, sh, h1, h2, h3⟩ := T.kp e hm
  obtain ⟨dx', st', sh', k1, k2, k3⟩ := kp
  have hne : ∀ {c xs}, H c = some (.lst xs) → c ≠ e.a := fun hc z => by rw [z, h1] at hc; exact nomatch hc
  have hds2 : H'' t = some (.lst ds) := s2 _ _ (b1 _ _ (hne hds) hds)
  refine T.put hk (e' := { e with t := t' }) (fun o ho => ?_) (fun c o c1 c2 c3 c4 hc => ?_) ?_ ⟨ds, v, hds, upd_same, ?_⟩ ?_ ⟨dx', st', sh', ?_, ?_, ?_⟩ (T.fe e hm) ?_ ?_ tb hM (T.pr e hm)
  · rw [show ({ e with t := t' } : KtE).a = e.a from rfl, h1] at ho
    cases ho
    exact ⟨_, _, _, rfl⟩
  · rw [upd_ne c2]
    exact s2 _ _ (b1 _ _ c4 hc)
  · rw [same (fun e => V.ref e.a) rfl, upd_ne T.htu.1]
    exact s2 _ _ (b1 _ _ (hne T.hh) T.hh)
  · obtain ⟨d, ed, hd⟩ := hv
    exact ⟨d, ed, by rw [upd_ne (fun z => by rw [z, hds2] at hd; exact nomatch hd)]; exact hd⟩
  · rw [same (fun e => e.ru) rfl, upd_ne (fun z => T.htu.2.2 z.symm)]
    exact s2 _ _ (b1 _ _ (hne T.hu) T.hu)
  · rw [upd_ne (fun z => by rw [← z, s2 _ _ k1] at hds2; exact nomatch hds2)]; exact s2 _ _ k1
  · rw [upd_ne (fun z => by rw [← z, s2 _ _ k2] at hds2; exact nomatch hds2)]; exact s2 _ _ k2
  · rw [upd_ne (fun z => by rw [← z, s2 _ _ k3] at hds2; exact nomatch hds2)]; exact s2 _ _ k3
  · have S := T.st e hm
    exact ⟨S.hsk, S.nd, S.mem, S.key, S.sm, S.len, S.of_, S.nm, S.sh⟩
  · rw [same (fun e => e.a) rfl]; exact T.nd
end NG

set_option Elab.async false
set_option linter.all false
set_option maxRecDepth 100000
set_option maxHeartbeats 400000
/-! _law_turned: the walk -/
namespace NG
open PySem PySem.Spec PyProof.Rows L2 He
variable {P : Program} {w : World} {K : Fg} {mg : Str → Option Value} {base : Heap}
theorem ixN_nat {n j : Nat} (h : j < n) : ixN n ((j : Nat) : Int) = some j := by
  unfold ixN
  rw [if_pos (by omega)]
  simp [h]
theorem TnOk.at {Hb H : Hp} {h t u : Addr} {nm : Str} {rows : List Row} {md : List MdE} {ks : List Str} {M : Nat} {Pr : V → Prop} {es : List KtE} (T : TnOk K Hb H h t u nm rows md ks M Pr es) {k : Nat} {e : KtE} (he : es[k]? = some e) :
    ∃ ds x, H t = some (.lst ds) ∧ ds[k]? = some x ∧ RowR H x e.t ∧ k < ds.length := by
  obtain ⟨ds, h1, h2⟩ := T.ht
  obtain ⟨x, hx, hr⟩ := at_each h2 he
  exact ⟨ds, x, h1, hx, hr, (List.getElem?_eq_some_iff.mp hx).1⟩
theorem TnOk.heldAt {es : List KtE} {k : Nat} {e : KtE} (he : es[k]? = some e) : atI (es.map fun e => V.ref e.a) ((k : Nat) : Int) = some (V.ref e.a) := atI_nat (by rw [List.getElem?_map, he]; rfl)
theorem nodup_set {α : Type} : ∀ {l : List α} {k : Nat} {a : α}, l.Nodup → a ∉ l → (l.set k a).Nodup
  | [], k, a, h, _ => by simp
  | x :: l, 0, a, h, ha => by
    obtain ⟨h1, h2⟩ := List.nodup_cons.mp h
    exact List.nodup_cons.mpr ⟨fun z => ha (List.mem_cons_of_mem _ z), h2⟩
  | x :: l, k + 1, a, h, ha => by
    obtain ⟨h1, h2⟩ := List.nodup_cons.mp h
    refine List.nodup_cons.mpr ⟨fun z => ?_, nodup_set h2 fun z => ha (List.mem_cons_of_mem _ z)⟩
    rcases List.mem_or_eq_of_mem_set z with z | z
    · exact h1 z
    · exact ha (by rw [z]; exact List.mem_cons_self)
/-- a copy is put -/
theorem TnOk.putC {Hb H H6 H8 : Hp} {h t u : Addr} {nm : Str} {rows : List Row} {md : List MdE} {ks : List Str} {M M' : Nat} {Pr : V → Prop} {es : List KtE} (T : TnOk K Hb H h t u nm rows md ks M Pr es) {k k2 : Nat} (hk : k < 3) {e2 : KtE} (he : es[k2]? = some e2) {b : Addr} {ds : List V} {v : V}
    (fb : ∃ C dx fs, H b = some (.ins C dx fs)) (nb : ∀ e ∈ es, e.a ≠ b) (hb : Hb b = none) (kp : KpA K H b e2.s e2.m.1 (shownR rows e2.t) e2.ru) (e6 : H6 = upd H h (.lst ((es.map fun e => V.ref e.a).set k (.ref b)))) (s68 : Same H6 H8) (hds : H t = some (.lst ds)) (hv : RowR H8 v e2.t) (hM : M ≤ M') :
    TnOk K Hb (upd (upd H8 t (.lst (ds.set k v))) u (.lst ((es.map fun e => e.ru).set k e2.ru))) h t u nm rows md ks M' Pr (es.set k { e2 with a := b }) := by
  have hm : e2 ∈ es := List.mem_of_getElem? he
  obtain ⟨C, dx, fs, hB⟩ := fb
  have hds8 : H8 t = some (.lst ds) := s68 _ _ (by rw [e6, upd_ne (fun z => T.htu.1 z.symm)]; exact hds)
  have hu8 : H8 u = some (.lst (es.map fun e => e.ru)) := s68 _ _ (by rw [e6, upd_ne (fun z => T.htu.2.1 z.symm)]; exact T.hu)
  have fr : ∀ c o, c ≠ h → c ≠ t → c ≠ u → H c = some o → upd (upd H8 t (.lst (ds.set k v))) u (.lst ((es.map fun e => e.ru).set k e2.ru)) c = some o := fun c o c1 c2 c3 hc => by
    rw [upd_ne c3, upd_ne c2]
    exact s68 _ _ (by rw [e6, upd_ne c1]; exact hc)
  refine T.put hk (e' := { e2 with a := b }) (fun o ho => ?_) (fun c o c1 c2 c3 _ hc => fr c o c1 c2 c3 hc) ?_ ⟨ds, v, hds, by rw [upd_ne T.htu.2.2, upd_same], ?_⟩ ?_ ?_ hb ?_ ?_ ((T.tb e2 hm).le hM) hM (T.pr e2 hm)
  · rw [show ({ e2 with a := b } : KtE).a = b from rfl, hB] at ho
    cases ho
    exact ⟨_, _, _, rfl⟩
  · rw [upd_ne T.htu.2.1, upd_ne T.htu.1]
    refine s68 _ _ ?_
    rw [e6, upd_same, List.map_set]
  · obtain ⟨d, ed, hd⟩ := hv
    refine ⟨d, ed, ?_⟩
    rw [upd_ne (fun z => by rw [z, hu8] at hd; exact nomatch hd), upd_ne (fun z => by rw [z, hds8] at hd; exact nomatch hd)]
    exact hd
  · rw [upd_same, List.map_set]
  · obtain ⟨dx', st, sh, h1, h2, h3⟩ := kp
    have nl : ∀ {c o}, H c = some o → (∀ xs, o ≠ .lst xs) → c ≠ h ∧ c ≠ t ∧ c ≠ u := fun hc n =>
      ⟨fun z => by rw [z, T.hh] at hc; exact n _ (Option.some.inj hc).symm, fun z => by rw [z, hds] at hc; exact n _ (Option.some.inj hc).symm, fun z => by rw [z, T.hu] at hc; exact n _ (Option.some.inj hc).symm⟩
    have q1 := nl h1 fun _ z => nomatch z
    have q2 := nl h2 fun _ z => nomatch z
    have q3 := nl h3 fun _ z => nomatch z
    exact ⟨dx', st, sh, fr _ _ q1.1 q1.2.1 q1.2.2 h1, fr _ _ q2.1 q2.2.1 q2.2.2 h2, fr _ _ q3.1 q3.2.1 q3.2.2 h3⟩
  · have S := T.st e2 hm
    exact ⟨S.hsk, S.nd, S.mem, S.key, S.sm, S.len, S.of_, S.nm, S.sh⟩
  · rw [List.map_set]
    refine nodup_set T.nd fun z => ?_
    obtain ⟨e, he', ez⟩ := List.mem_map.mp z
    exact nb e he' ez
abbrev nTn : List Str := ["rng", "held", "tables", "keys", "rules", "k", "way", "told", "key", "number", "more", "passed", "far"]
theorem sc_tn : FnScope nTn ["rng", "held", "tables", "keys", "rules"] (defScope f__law_turned) := ⟨rfl, rfl, rfl, by decide +kernel, rfl, by decide +kernel, by decide +kernel⟩
def spTn (K : Fg) : Sp := fun vs H Q _ => ∃ (Hb : Hp) (r h t ka u : Addr) (nm : Str) (rows : List Row) (md : List MdE) (ks : List Str) (M : Nat) (Pr : V → Prop) (es : List KtE),
  vs = [.ref r, .ref h, .ref t, .ref ka, .ref u] ∧ Hb r = some (RngO r) ∧ Hb ka = some (.lst (ks.map V.str)) ∧ ks.Nodup ∧ ks.length ≤ 3 ∧ (∀ k ∈ ks, keyS k = true) ∧ bigN ≤ M ∧ M < 2 ^ szT ∧ rows.length ≤ 100 ∧ TnOk K Hb H h t u nm rows md ks M Pr es ∧
  ∀ H' es', TnOk K Hb H' h t u nm rows md ks (2 * M) Pr es' → Q (.bl true) H'
theorem has_turned (e : Ev K mg) : Has P w K mg base 9 "_law_turned" ["rng", "held", "tables", "keys", "rules"] (spTn K) := by
  obtain ⟨fd, F⟩ := e.F_f__law_turned
  refine ⟨_, fd, e.g__law_turned, ?_, F.kp, F.bindsN fun _ _ _ _ _ _ us hl => match us, hl with | [_, _, _, _, _], _ => rfl⟩
  obtain ⟨f1', d1, m1, G1, k1, b1⟩ := has_draw (P := P) (w := w) (base := base) e
  obtain ⟨f2', d2, m2, G2, k2, b2⟩ := has_choice (P := P) (w := w) (base := base) e
  obtain ⟨f3', d3, m3, G3, k3, b3⟩ := has_number (P := P) (w := w) (base := base) e
  obtain ⟨f4', d4, m4, G4, k4, b4⟩ := has_added (P := P) (w := w) (base := base) e
  obtain ⟨f5', d5, m5, G5, k5, b5⟩ := has_ltable (P := P) (w := w) (base := base) e
  obtain ⟨d6, ds6, M6, m6, G6, v6, b6⟩ := hasC_Table (P := P) (w := w) (base := base) e
  obtain ⟨d7, M7, G7, b7⟩ := hasM_KChange (P := P) (w := w) (base := base) e
  obtain ⟨d8, M8, G8, b8⟩ := hasM_KAdd (P := P) (w := w) (base := base) e
  obtain ⟨d9, M9, G9, b9⟩ := hasM_KTake (P := P) (w := w) (base := base) e
  obtain ⟨da, Ma, Ga, ba⟩ := hasM_KCopy (P := P) (w := w) (base := base) e
  obtain ⟨db, Mb, Gb, bb⟩ := hasM_TEq (P := P) (w := w) (base := base) e
  refine F.okD sc_tn (fun vs H Q E h => ?_) (fun cdv A outer s H vs Q E hr h => ?_)
  · obtain ⟨Hb, r, h, t, ka, u, nm, rows, md, ks, M, Pr, es, rfl, _⟩ := h; rfl
  · obtain ⟨Hb, r, h, t, ka, u, nm, rows, md, ks, M, Pr, es, rfl, hbr, hbk, hnd, hk3, hkk, hM1, hM2, hrl, T, q⟩ := h
    have hr1 := hr.mono (show 1 ≤ 8 by decide)
    have hr2 := hr.mono (show 2 ≤ 8 by decide)
    have hr3 := hr.mono (show 3 ≤ 8 by decide)
    have hr4 := hr.mono (show 4 ≤ 8 by decide)
    have hr5 := hr.mono (show 5 ≤ 8 by decide)
    have hr6 := hr.mono (show 6 ≤ 8 by decide)
    refine ⟨_, pss_cons (ps_par (i := 5) (j := 6) rfl sc_tn.nd rfl rfl (by decide) rfl rfl (pa_cons (pe_call G1 hr1 rfl m1 k1 b1 .nil pass0 (pa_cons (pv 0) (pa_cons (pe_callB call_len_seq rfl e.b_len boot_len (pa_cons (pv 1) pa_nil)) pa_nil))) (pa_cons (pe_call G1 hr1 rfl m1 k1 b1 .nil pass0 (pa_cons (pv 0) (pa_cons pe_int pa_nil))) pa_nil)) rfl)
      (pss_cons (ps_set (i := 7) sc_tn.nd rfl (Or.inl rfl) pe_non)
      (pss_cons (ps_if (pt_cmpR op_lt (pv 6) pe_int (nomark _))
        (pss_cons (ps_par (i := 8) (j := 9) rfl sc_tn.nd rfl rfl (by decide) rfl rfl (pa_cons (pe_call G2 hr2 rfl m2 k2 b2 .nil pass0 (pa_cons (pv 0) (pa_cons (pe_op op_cat (pv 3) (pe_lst (pa_cons pe_str pa_nil))) pa_nil))) (pa_cons (pe_call G3 hr3 rfl m3 k3 b3 .nil pass0 (pa_cons (pv 0) pa_nil)) pa_nil)) rfl)
        (pss_cons (ps_set (i := 7) sc_tn.nd rfl (Or.inl rfl) (pe_meth (pe_ix ix_list (pv 1) (pv 5) (fun _ _ => rfl)) e.cl_Kept M7 G7 hr6 b7 .nil pass0 (pa_cons (pv 8) (pa_cons (pv 9) pa_nil))))
        (pss_one (ps_asg (pe_call G4 hr1 rfl m4 k4 b4 .nil pass0 (pa_cons (pe_ix ix_list (pv 2) (pv 5) (fun _ _ => rfl)) (pa_cons (pe_disp (pps_cons (pv 8) (pv 9) pps_nil) (by rfl) (by rfl) (fun z => by cases z) (by decide)) pa_nil))) (pg_sub (pv 2) (pv 5) set_list))))) pss_nil)
      (pss_cons (ps_if (pt_cmpR op_in_seq (pv 6) (pe_tup (pa_cons pe_int (pa_cons pe_int pa_nil))) (by with_unfolding_all rfl))
        (pss_cons (ps_set (i := 10) sc_tn.nd rfl (Or.inl rfl) (pe_call G5 hr4 rfl m5 k5 b5 .nil pass0 (pa_cons (pv 0) (pa_cons (pv 3) pa_nil))))
        (pss_cons (ps_set (i := 11) sc_tn.nd rfl (Or.inl rfl) (pe_make M6 G6 hr4 rfl m6 b6 v6 pass0 (pa_cons (pv 10) pa_nil)))
        (pss_cons (ps_set (i := 7) sc_tn.nd rfl (Or.inl rfl) (pe_meth (pe_ix ix_list (pv 1) (pv 5) (fun _ _ => rfl)) e.cl_Kept M8 G8 hr5 b8 .nil pass0 (pa_cons (pv 11) pa_nil)))
        (pss_cons (ps_asg (pe_call G4 hr1 rfl m4 k4 b4 .nil pass0 (pa_cons (pe_ix ix_list (pv 2) (pv 5) (fun _ _ => rfl)) (pa_cons (pv 10) pa_nil))) (pg_sub (pv 2) (pv 5) set_list))
        (pss_one (ps_if (pt_cmpR (op_neO Gb hr2 e.ty_Table e.ne_Table Mb.at_ Mb.fn bb) (pv 11) (pe_make M6 G6 hr4 rfl m6 b6 v6 pass0 (pa_cons (pv 10) pa_nil)) (nomark _)) (pss_one (ps_ret pe_bl)) pss_nil)))))) pss_nil)
      (pss_cons (ps_if (pt_cmpR op_eq (pv 6) pe_int (nomark _))
        (pss_cons (ps_set (i := 12) sc_tn.nd rfl (Or.inl rfl) (pe_call G1 hr1 rfl m1 k1 b1 .nil pass0 (pa_cons (pv 0) (pa_cons (pe_callB call_len_seq rfl e.b_len boot_len (pa_cons (pv 1) pa_nil)) pa_nil))))
        (pss_cons (ps_set (i := 7) sc_tn.nd rfl (Or.inl rfl) (pe_meth (pe_ix ix_list (pv 1) (pv 5) (fun _ _ => rfl)) e.cl_Kept M9 G9 hr b9 .nil pass0 (pa_cons (pe_ix ix_list (pv 1) (pv 12) (fun _ _ => rfl)) pa_nil)))
        (pss_one (ps_asg (pe_call G4 hr1 rfl m4 k4 b4 .nil pass0 (pa_cons (pe_ix ix_list (pv 2) (pv 5) (fun _ _ => rfl)) (pa_cons (pe_ix ix_list (pv 2) (pv 12) (fun _ _ => rfl)) pa_nil))) (pg_sub (pv 2) (pv 5) set_list))))) pss_nil)
      (pss_cons (ps_if (pt_cmpR op_eq (pv 6) pe_int (nomark _))
        (pss_cons (ps_set (i := 12) sc_tn.nd rfl (Or.inl rfl) (pe_call G1 hr1 rfl m1 k1 b1 .nil pass0 (pa_cons (pv 0) (pa_cons (pe_callB call_len_seq rfl e.b_len boot_len (pa_cons (pv 1) pa_nil)) pa_nil))))
        (pss_cons (ps_asg (pe_meth0 (pe_ix ix_list (pv 1) (pv 12) (fun _ _ => rfl)) e.cl_Kept Ma Ga hr6 ba .nil pass0) (pg_sub (pv 1) (pv 5) set_list))
        (pss_one (ps_asg (pe_tup (pa_cons (pe_callTy call_dictD rfl e.b_dict boot_dict (pa_cons (pe_ix ix_list (pv 2) (pv 12) (fun _ _ => rfl)) pa_nil)) (pa_cons (pe_ix ix_list (pv 4) (pv 12) (fun _ _ => rfl)) pa_nil))) (pg_tup rfl (pgs_cons (pg_sub (pv 2) (pv 5) set_list) (pgs_cons (pg_sub (pv 4) (pv 5) set_list) pgs_nil))))))) pss_nil)
      (pss_one (ps_ret (pe_cmpR op_isN (pv 7) pe_non (nomark _))))))))), ?_⟩
    have hbN : bigN < 2 ^ szT := by decide +kernel
    have hlen : (es.map fun e => V.ref e.a).length = 3 := by rw [List.length_map, T.len]
    have hrH : ∀ {H'}, TnOk K Hb H' h t u nm rows md ks M Pr es → H' r = some (RngO r) := fun T' => T'.sub _ _ hbr
    refine ⟨_, rfl, _, rfl, h, _, rfl, .inl (SqL.of T.hh), r, 3, (by rw [hlen]; rfl), by decide, by decide, hrH T, fun k H1 hk s1 => ?_⟩
    have T1 := T.same s1
    refine ⟨_, rfl, r, 6, rfl, by decide, by decide, hrH T1, fun wy H2 hwy s2 => ?_⟩
    have T2 := T1.same s2
    refine ⟨_, _, rfl, ?_⟩
    have hkl : k < es.length := by rw [T.len]; exact hk
    obtain ⟨e0, he0⟩ : ∃ e0, es[k]? = some e0 := ⟨_, List.getElem?_eq_getElem hkl⟩
    have hm0 : e0 ∈ es := List.mem_of_getElem? he0
    have hin : inV (V.int wy) [V.int 2, V.int 3] = decide (wy = 2 ∨ wy = 3) := by
      have : wy = 0 ∨ wy = 1 ∨ wy = 2 ∨ wy = 3 ∨ wy = 4 ∨ wy = 5 := by omega
      rcases this with rfl | rfl | rfl | rfl | rfl | rfl <;> rfl
    have hdec : (wy < 2) ∨ (wy = 2 ∨ wy = 3) ∨ wy = 4 ∨ wy = 5 := by omega
    rcases hdec with hw | hw | hw | hw
    · refine ⟨_, rfl, _, _, rfl, rfl, _, rfl, ?_⟩
      rw [decide_eq_true (show ((wy : Nat) : Int) < 2 by omega)]
      refine iteT ?_
      refine ⟨_, rfl, _, rfl, (by show 1 ≤ sizeLine; decide), fun p hp => ?_⟩
      have x3 := same_upd (o := .lst [.str zz9]) hp
      have T3 := T2.same x3
      refine ⟨ka, p, ks.map V.str, _, rfl, rfl, T3.sub _ _ hbk, upd_same, (by rw [List.length_map]; show ks.length + 1 ≤ sizeLine; rw [sizeLine_eq]; omega), fun p2 hp2 => ?_⟩
      have T4 := T3.same (same_upd (o := .lst (ks.map V.str ++ [.str zz9])) hp2)
      refine ⟨r, p2, _, rfl, hrH T4, SqL.of upd_same, ⟨by simp, by rw [List.length_append, List.length_map]; simp; omega⟩, fun v H5 hv s5 => ?_⟩
      have T5 := T4.same s5
      obtain ⟨kk, rfl, hkm⟩ : ∃ kk, v = .str kk ∧ kk ∈ ks ++ [zz9] := by
        rcases List.mem_append.mp hv with hv | hv
        · obtain ⟨kk, hk', rfl⟩ := List.mem_map.mp hv
          exact ⟨kk, rfl, List.mem_append_left _ hk'⟩
        · exact ⟨zz9, List.mem_singleton.mp hv, List.mem_append_right _ (by simp)⟩
      have hkey : keyS kk = true := by
        rcases List.mem_append.mp hkm with hkm | hkm
        · exact hkk kk hkm
        · rw [List.mem_singleton.mp hkm]; decide +kernel
      refine ⟨_, rfl, r, rfl, hrH T5, fun n H6 hn s6 => ?_⟩
      have T6 := T5.same s6
      refine ⟨_, _, rfl, ?_⟩
      obtain ⟨dx, st, sh, h1, h2, h3⟩ := T6.kp e0 hm0
      refine ⟨_, rfl, _, rfl, h, _, _, _, rfl, rfl, SqL.of T6.hh, TnOk.heldAt he0, e0.a, dx, _, rfl, h1, kfs_no (by decide) (by decide) (by decide), ?_⟩
      refine ⟨_, rfl, _, rfl, e0.a, e0.s, kk, n, e0.sk, e0.m, shownR rows e0.t, e0.ru, rfl, T6.kpOf hm0, hkey, Nat.lt_of_le_of_lt hn hbN, fun H7 b7' kp7 => ?_⟩
      have S0 := T6.st e0 hm0
      rw [S0.sh, ← shownR_add rows (by simp)] at kp7
      obtain ⟨ds, x, hds, hx, hxr, hkd⟩ := T6.at he0
      have hne : ∀ {c xs}, H6 c = some (.lst xs) → c ≠ e0.a := fun hc z => by rw [z, h1] at hc; exact nomatch hc
      have hds7 := b7' _ _ (hne hds) hds
      obtain ⟨d, rfl, hd⟩ := hxr
      have hd7 := b7' _ _ (fun z => by rw [z, h1] at hd; exact nomatch hd) hd
      refine ⟨_, rfl, _, rfl, t, ds, _, _, rfl, rfl, SqL.of hds7, atI_nat hx, fun p8 hp8 => ?_⟩
      refine ⟨_, rfl, _, rfl, upd_same, [(Sum.inr kk, .int n)], rfl, (by simp), ?_⟩
      rw [upd_upd]
      have e0' : mergeK [] [((Sum.inr kk : Key), V.int n)] = rowKV [(kk, n)] := rfl
      rw [e0']
      have s8 := same_upd (o := .dK (rowKV [(kk, n)])) hp8
      refine ⟨_, _, e0.t, [(kk, n)], rfl, ⟨d, rfl, .inl (s8 _ _ hd7)⟩, ⟨p8, rfl, upd_same⟩, by have := (T.tb e0 hm0).len; omega, by simp, fun v9 H9 s9 hv9 => ?_⟩
      have s79 := s8.trans s9
      refine ⟨_, rfl, _, rfl, t, ds, _, k, rfl, rfl, s79 _ _ hds7, ixN_nat hkd, ?_⟩
      have TT := T6.putT he0 b7' kp7 s79 hds hv9 (M' := 2 * M) (((T.tb e0 hm0).add (TabOk.one hkm hn)).le (by omega)) (by omega)
      refine ⟨_, rfl, (by show 2 ≤ sizeLine; decide), fun p10 hp10 => ?_⟩
      refine ⟨p10, _, rfl, .inr (SqT.of upd_same), rfl, rfl, _, rfl, ?_⟩
      rw [if_neg (by decide), hin, decide_eq_false (by omega)]
      refine iteF ?_
      have TT2 := TT.same (same_upd (o := .tup [.int 2, .int 3]) hp10)
      refine ⟨_, rfl, rfl, _, rfl, ?_⟩
      rw [decide_eq_false (show ¬ V.int ((wy : Nat) : Int) = V.int 4 from fun z => by injection z; omega)]
      refine iteF ?_
      refine ⟨_, rfl, rfl, _, rfl, ?_⟩
      rw [decide_eq_false (show ¬ V.int ((wy : Nat) : Int) = V.int 5 from fun z => by injection z; omega)]
      refine iteF ?_
      exact ⟨_, rfl, rfl, q _ _ TT2⟩
    · refine ⟨_, rfl, _, _, rfl, rfl, _, rfl, ?_⟩
      rw [decide_eq_false (show ¬ ((wy : Nat) : Int) < 2 by omega)]
      refine iteF ?_
      refine ⟨_, rfl, (by show 2 ≤ sizeLine; decide), fun p hp => ?_⟩
      refine ⟨p, _, rfl, .inr (SqT.of upd_same), rfl, rfl, _, rfl, ?_⟩
      rw [if_neg (by decide), hin, decide_eq_true hw]
      refine iteT ?_
      have TA := T2.same (same_upd (o := .tup [.int 2, .int 3]) hp)
      refine ⟨_, rfl, _, rfl, r, ka, ks, rfl, hrH TA, SqL.of (TA.sub _ _ hbk), hnd, hk3, fun v more H4 s4 hmr hgr => ?_⟩
      have T4 := TA.same s4
      have hrok : RowOk more := ⟨hgr.1, by have := hgr.len; omega, fun z hz => hkk z.1 (hgr.2.1 z.1 (List.mem_map.mpr ⟨z, hz, rfl⟩))⟩
      refine ⟨_, rfl, fun x xd nx nd hne => ?_⟩
      refine ⟨x, xd, v, more, rfl, mn_Row _ _ _ _ (made_mono nx nd) hmr, hrok, upd_same, fun H5 c r' b5 hx5 hc5 hk5 => ⟨rfl, ?_⟩⟩
      have s5 := made_same nx nd b5
      have T5 := T4.same s5
      have hmr5 := mn_Row _ _ _ _ s5 hmr
      obtain ⟨dx, st, sh, h1, h2, h3⟩ := T5.kp e0 hm0
      refine ⟨_, rfl, _, rfl, h, _, _, _, rfl, rfl, SqL.of T5.hh, TnOk.heldAt he0, e0.a, dx, _, rfl, h1, kfs_no (by decide) (by decide) (by decide), ?_⟩
      refine ⟨_, rfl, e0.a, e0.s, .ref x, e0.sk, e0.m, r', shownR rows e0.t, e0.ru, rfl, T5.kpOf hm0, ⟨x, rfl, xd, c, hx5, hc5⟩, fun j => by rw [hk5.2.1]; exact Nat.lt_of_le_of_lt (hgr.tab.sm j) hbN, fun H6 b6' kp6 => ?_⟩
      have S0 := T5.st e0 hm0
      rw [S0.sh, shownR_congr rows hk5.2.1, ← shownR_add rows hgr.1] at kp6
      obtain ⟨ds, y, hds, hy, hyr, hkd⟩ := T5.at he0
      have hne6 : ∀ {c xs}, H5 c = some (.lst xs) → c ≠ e0.a := fun hc z => by rw [z, h1] at hc; exact nomatch hc
      have hds6 := b6' _ _ (hne6 hds) hds
      obtain ⟨d, rfl, hd⟩ := hyr
      obtain ⟨dm, rfl, hdm⟩ := hmr5
      have hd6 := b6' _ _ (fun z => by rw [z, h1] at hd; exact nomatch hd) hd
      have hdm6 := b6' _ _ (fun z => by rw [z, h1] at hdm; exact nomatch hdm) hdm
      refine ⟨_, rfl, _, rfl, t, ds, _, _, rfl, rfl, SqL.of hds6, atI_nat hy, ?_⟩
      refine ⟨_, rfl, _, _, e0.t, more, rfl, ⟨d, rfl, .inl hd6⟩, ⟨dm, rfl, hdm6⟩, by have := (T.tb e0 hm0).len; omega, by have := hgr.len; omega, fun v9 H9 s9 hv9 => ?_⟩
      have hds9 := s9 _ _ hds6
      refine ⟨_, rfl, _, rfl, t, ds, _, k, rfl, rfl, hds9, ixN_nat hkd, ?_⟩
      have TT := T5.putT he0 b6' kp6 s9 hds hv9 (M' := 2 * M) (((T.tb e0 hm0).add (hgr.tab.le hM1)).le (by omega)) (by omega)
      have hxa : x ≠ e0.a := fun z => by rw [z] at nx; obtain ⟨dx0, _, _, g1, _⟩ := T4.kp e0 hm0; rw [g1] at nx; exact nomatch nx
      have hx9 : upd H9 t (.lst (ds.set k v9)) x = some (.ins (ga K "Table") xd (f1 "own_counts" (.ref c))) := by
        have g := s9 _ _ (b6' _ _ hxa hx5)
        rw [upd_ne (fun z => by rw [z, hds9] at g; exact nomatch g)]
        exact g
      have hc9 : upd H9 t (.lst (ds.set k v9)) c = some (.dK (rowKV r')) := by
        have g := s9 _ _ (b6' _ _ (fun z => by rw [z, h1] at hc5; exact nomatch hc5) hc5)
        rw [upd_ne (fun z => by rw [z, hds9] at g; exact nomatch g)]
        exact g
      have hdm9 : upd H9 t (.lst (ds.set k v9)) dm = some (.dK (rowKV more)) := by
        have g := s9 _ _ hdm6
        rw [upd_ne (fun z => by rw [z, hds9] at g; exact nomatch g)]
        exact g
      refine ⟨_, rfl, _, rfl, fun x2 xd2 nx2 nd2 hne2 => ?_⟩
      refine ⟨x2, xd2, _, more, rfl, mn_Row _ _ _ _ (made_mono nx2 nd2) ⟨dm, rfl, hdm9⟩, hrok, upd_same, fun Ha c2 r2 ba hxa2 hca2 hka => ⟨rfl, ?_⟩⟩
      have sa := made_same nx2 nd2 ba
      refine ⟨x, x2, xd, xd2, _, _, rfl, rfl, sa _ _ hx9, hxa2, .ref x, .ref x2, r', r2, rfl, ⟨x, rfl, xd, c, sa _ _ hx9, sa _ _ hc9⟩, ⟨x2, rfl, xd2, c2, hxa2, hca2⟩, kept_alike hk5 hka, true, rfl, _, rfl, iteF ?_⟩
      have TT2 := TT.same sa
      refine ⟨_, rfl, rfl, _, rfl, ?_⟩
      rw [decide_eq_false (show ¬ V.int ((wy : Nat) : Int) = V.int 4 from fun z => by injection z; omega)]
      refine iteF ?_
      refine ⟨_, rfl, rfl, _, rfl, ?_⟩
      rw [decide_eq_false (show ¬ V.int ((wy : Nat) : Int) = V.int 5 from fun z => by injection z; omega)]
      refine iteF ?_
      exact ⟨_, rfl, rfl, q _ _ TT2⟩
    · refine ⟨_, rfl, _, _, rfl, rfl, _, rfl, ?_⟩
      rw [decide_eq_false (show ¬ ((wy : Nat) : Int) < 2 by omega)]
      refine iteF ?_
      refine ⟨_, rfl, (by show 2 ≤ sizeLine; decide), fun p hp => ?_⟩
      refine ⟨p, _, rfl, .inr (SqT.of upd_same), rfl, rfl, _, rfl, ?_⟩
      rw [if_neg (by decide), hin, decide_eq_false (by omega)]
      refine iteF ?_
      subst hw
      refine ⟨_, rfl, rfl, _, rfl, iteT ?_⟩
      have TA := T2.same (same_upd (o := .tup [.int 2, .int 3]) hp)
      refine ⟨_, rfl, _, rfl, h, _, rfl, .inl (SqL.of TA.hh), r, 3, (by rw [hlen]; rfl), by decide, by decide, hrH TA, fun k2 H4 hk2' s4 => ?_⟩
      have T4 := TA.same s4
      obtain ⟨e2, he2⟩ : ∃ e2, es[k2]? = some e2 := ⟨_, List.getElem?_eq_getElem (by rw [T.len]; exact hk2')⟩
      have hm2 : e2 ∈ es := List.mem_of_getElem? he2
      obtain ⟨dx, st, sh, h1, h2, h3⟩ := T4.kp e0 hm0
      refine ⟨_, rfl, _, rfl, h, _, _, _, rfl, rfl, SqL.of T4.hh, TnOk.heldAt he0, e0.a, dx, _, rfl, h1, kfs_no (by decide) (by decide) (by decide), ?_⟩
      refine ⟨_, rfl, _, rfl, h, _, _, _, rfl, rfl, SqL.of T4.hh, TnOk.heldAt he2, ?_⟩
      have S0 := T4.st e0 hm0
      have S2 := T4.st e2 hm2
      have K0 := T4.kp e0 hm0
      have K2 := T4.kp e2 hm2
      rw [S2.nm, ← S0.nm] at K2
      refine ⟨e0.a, e2.a, e0.s, e2.s, e0.m.1, shownR rows e0.t, shownR rows e2.t, e0.ru, e2.ru, rfl, K0, K2, ⟨_, _, (T4.kpOf hm2).hsk, (T4.kpOf hm0).hsk, skof_alike S2.of_ S0.of_⟩, by rw [shownR_len, shownR_len], by rw [shownR_len]; exact hrl, fun H6 b6' kp6 => ?_⟩
      rw [← shownR_add rows (T.tb e2 hm2).nd] at kp6
      obtain ⟨ds, y, hds, hy, hyr, hkd⟩ := T4.at he0
      obtain ⟨ds', z, hds', hz, hzr, hkd'⟩ := T4.at he2
      rw [hds] at hds'
      cases hds'
      have hne6 : ∀ {c xs}, H4 c = some (.lst xs) → c ≠ e0.a := fun hc z => by rw [z, h1] at hc; exact nomatch hc
      have hds6 := b6' _ _ (hne6 hds) hds
      obtain ⟨d, rfl, hd⟩ := hyr
      obtain ⟨dm, rfl, hdm⟩ := hzr
      have hd6 := b6' _ _ (fun z => by rw [z, h1] at hd; exact nomatch hd) hd
      have hdm6 := b6' _ _ (fun z => by rw [z, h1] at hdm; exact nomatch hdm) hdm
      refine ⟨_, rfl, _, rfl, t, ds, _, _, rfl, rfl, SqL.of hds6, atI_nat hy, ?_⟩
      refine ⟨_, rfl, _, rfl, t, ds, _, _, rfl, rfl, SqL.of hds6, atI_nat hz, ?_⟩
      refine ⟨_, _, e0.t, e2.t, rfl, ⟨d, rfl, .inl hd6⟩, ⟨dm, rfl, hdm6⟩, by have := (T.tb e0 hm0).len; omega, by have := (T.tb e2 hm2).len; omega, fun v9 H9 s9 hv9 => ?_⟩
      have hds9 := s9 _ _ hds6
      refine ⟨_, rfl, _, rfl, t, ds, _, k, rfl, rfl, hds9, ixN_nat hkd, ?_⟩
      have TT := T4.putT he0 b6' kp6 s9 hds hv9 (M' := 2 * M) (((T.tb e0 hm0).add (T.tb e2 hm2)).le (by omega)) (by omega)
      refine ⟨_, rfl, rfl, _, rfl, iteF ?_⟩
      exact ⟨_, rfl, rfl, q _ _ TT⟩
    · refine ⟨_, rfl, _, _, rfl, rfl, _, rfl, ?_⟩
      rw [decide_eq_false (show ¬ ((wy : Nat) : Int) < 2 by omega)]
      refine iteF ?_
      refine ⟨_, rfl, (by show 2 ≤ sizeLine; decide), fun p hp => ?_⟩
      refine ⟨p, _, rfl, .inr (SqT.of upd_same), rfl, rfl, _, rfl, ?_⟩
      rw [if_neg (by decide), hin, decide_eq_false (by omega)]
      refine iteF ?_
      subst hw
      refine ⟨_, rfl, rfl, _, rfl, iteF ?_⟩
      refine ⟨_, rfl, rfl, _, rfl, iteT ?_⟩
      have TA := T2.same (same_upd (o := .tup [.int 2, .int 3]) hp)
      refine ⟨_, rfl, _, rfl, h, _, rfl, .inl (SqL.of TA.hh), r, 3, (by rw [hlen]; rfl), by decide, by decide, hrH TA, fun k2 H4 hk2' s4 => ?_⟩
      have T4 := TA.same s4
      obtain ⟨e2, he2⟩ : ∃ e2, es[k2]? = some e2 := ⟨_, List.getElem?_eq_getElem (by rw [T.len]; exact hk2')⟩
      have hm2 : e2 ∈ es := List.mem_of_getElem? he2
      obtain ⟨dx, st, sh, h1, h2, h3⟩ := T4.kp e2 hm2
      have S2 := T4.st e2 hm2
      refine ⟨_, rfl, _, rfl, h, _, _, _, rfl, rfl, SqL.of T4.hh, TnOk.heldAt he2, e2.a, dx, _, rfl, h1, kfs_no (by decide) (by decide) (by decide), ?_⟩
      refine ⟨e2.a, e2.s, e2.sk, e2.m, shownR rows e2.t, e2.ru, rfl, T4.kp e2 hm2, (T4.kpOf hm2).hsk, S2.nd, S2.mem, S2.key, by rw [S2.len]; exact hrl, fun b H5 nb s5 kp5 => ?_⟩
      have T5 := T4.same s5
      refine ⟨_, rfl, _, rfl, h, _, _, k, rfl, rfl, T5.hh, (by rw [hlen]; exact ixN_nat hk), ?_⟩
      obtain ⟨ds, y, hds, hy, hyr, hkd⟩ := T5.at he0
      obtain ⟨ds', z, hds', hz, hzr, hkd'⟩ := T5.at he2
      rw [hds] at hds'
      cases hds'
      obtain ⟨dm, rfl, hdm⟩ := hzr
      generalize hH6 : upd H5 h (.lst ((es.map fun e => V.ref e.a).set k (.ref b))) = H6
      have hds6 : H6 t = some (.lst ds) := by rw [← hH6, upd_ne (fun z => T.htu.1 z.symm)]; exact hds
      have hu6 : H6 u = some (.lst (es.map fun e => e.ru)) := by rw [← hH6, upd_ne (fun z => T.htu.2.1 z.symm)]; exact T5.hu
      have hdm6 : H6 dm = some (.dK (rowKV e2.t)) := by rw [← hH6, upd_ne (fun z => by rw [z, T5.hh] at hdm; exact nomatch hdm)]; exact hdm
      refine ⟨_, rfl, _, rfl, t, ds, _, _, rfl, rfl, SqL.of hds6, atI_nat hz, dm, _, rfl, .inl hdm6, fun p7 hp7 => ?_⟩
      have s7 := same_upd (o := .dK (rowKV e2.t)) hp7
      refine ⟨_, rfl, _, rfl, u, _, _, e2.ru, rfl, rfl, SqL.of (s7 _ _ hu6), atI_nat (by rw [List.getElem?_map, he2]; rfl), (by show 2 ≤ sizeLine; decide), fun p8 hp8 => ?_⟩
      have s8 := same_upd (o := .tup [.ref p7, e2.ru]) hp8
      have s78 := s7.trans s8
      refine ⟨p8, _, rfl, SqT.of upd_same, rfl, _, _, rfl, ?_⟩
      refine ⟨_, rfl, _, rfl, t, ds, _, k, rfl, rfl, s78 _ _ hds6, ixN_nat hkd, ?_⟩
      refine ⟨_, _, rfl, ?_⟩
      refine ⟨_, rfl, _, rfl, u, _, _, k, rfl, rfl, (by rw [upd_ne (fun z => T.htu.2.2 z.symm)]; exact s78 _ _ hu6), (by rw [List.length_map, T.len]; exact ixN_nat hk), ?_⟩
      have TT := T5.putC hk he2 (b := b) (v := .ref p7) (ds := ds) (H6 := H6) (H8 := upd (upd H6 p7 (.dK (rowKV e2.t))) p8 (.tup [.ref p7, e2.ru])) (by
        obtain ⟨_, _, _, g, _⟩ := kp5
        exact ⟨_, _, _, g⟩) (fun e he z => by
        obtain ⟨_, _, _, g, _⟩ := T4.kp e he
        rw [z, nb] at g; exact nomatch g) (by
        cases hq : Hb b with
        | none => rfl
        | some o => have := T4.sub _ _ hq; rw [nb] at this; exact nomatch this) kp5 hH6.symm s78 hds ⟨p7, rfl, s8 _ _ upd_same⟩ (M' := 2 * M) (by omega)
      exact ⟨rfl, _, rfl, rfl, q _ _ TT⟩
end NG

set_option Elab.async false
set_option linter.all false
set_option maxRecDepth 100000
set_option maxHeartbeats 400000
/-! repr of a tuple, of the rules; _law_are_right from the state -/
namespace NG
open PySem PySem.Spec PyProof.Rows L2 He
variable {P : Program} {w : World} {K : Fg} {mg : Str → Option Value} {base : Heap}
section
variable {X : Cx}
theorem reprAll_ints {prog : Program} {w : World} : ∀ {l : List Int} {its : List Value}, Vals (l.map V.int) its → (∀ n ∈ l, n.natAbs.log2 < 1920) → ReprAll prog w its (l.map fun n => (toString n : Str))
  | [], _, r, _ => by cases r; exact .nil
  | n :: l, _, r, h => by
    cases r with
    | cons r1 r2 =>
      obtain ⟨t, rfl⟩ := r1
      exact .cons (ReprIs.int t (h n List.mem_cons_self)) (reprAll_ints r2 fun m hm => h m (List.mem_cons_of_mem _ hm))
theorem call_reprTI (hg : X.A.guards = some []) (hr : Room 2 X.A) : CallR X (.builtin "repr") (fun xs H Q => ∃ T ns, xs = [.ref T] ∧ H T = some (.tup (ns.map V.int)) ∧ SmallI ns ∧ Q (.str (tiTx ns)) H) := by
  intro pins s σ H vs us Q I r h
  obtain ⟨T, ns, rfl, hT, hs, q⟩ := h
  obtain ⟨u, rfl, ru⟩ := vals1 r
  cases ru
  refine Calls.call_function_entry PySem.F.kind_repr PySem.F.plain_repr PySem.F.entry_repr (PySem.F.args_repr1 _) ?_
  unfold Builtin.«repr»
  refine wpAny_bind (m := oneArg "repr" _) (wpAny_pure ?_)
  obtain ⟨hz, its, hv, o, e, hcl, n, hd⟩ := (show ObjOk X.prog X.w H s.heap T (.tup (ns.map V.int)) from I.hok T _ hT)
  have hTy : s.TypeIs (.ref T) "tuple" := ⟨o, e, hcl⟩
  refine wpAny_bind (wpAny_cRoomFor (Room.in1 hr).units0 ?_)
  refine wpAny_bind (wpAny_specialOf (name := Str.ofString "__repr__") hTy F.slot_tuple_repr.lookup ?_)
  refine wpAny_bind (m := callSpecialIfBound? (.ref T) (Str.ofString "__repr__")) (wpAny_callSpecialIfBound?_slotG (name := Str.ofString "__repr__") hTy F.slot_tuple_repr
    (call_tuple_repr (A := X.A.in1) (g := []) hTy hg (fun _ hc => nomatch hc) e hd (reprAll_ints (by simpa using hv) hs.2) (fun u tk => ?_) ?_))
  · refine wpAny_bind (wpAny_isInstance (T := "str") (b := true) rfl isSubtype_str_str ?_)
    exact wpAny_pure ⟨_, rfl, .str _, H, I.tok _, ⟨_, rfl⟩, q⟩
  · have := tiTx_le hs
    show (tiTx ns).length ≤ sizeLine
    rw [sizeLine_eq]; omega
def rulTx (ys : List Str) (n : Int) (v : V) : Str := match v with
  | .non => "None"
  | _ => ruTxt ys n
theorem ruTxt_len {ys : List Str} {n : Int} (hk : ∀ s ∈ ys, keyS s = true) (ht : TxOk n) (hl : ys.length ≤ 64) : (ruTxt ys n).length ≤ 800010 := by
  have := ruTxt_le hk ht hl
  unfold ruTxt
  rw [strLen_append, strLen_append]
  have e1 : (Str.empty ++ "Rule(").length = 5 := by decide +kernel
  have e2 : ((")" : String) : Str).length = 1 := rfl
  omega
theorem RuT.upd {H : Hp} {a t l : Addr} {o : HO} {ys : List Str} {n : Int} {xs : List V} (h : RuT K H a t ys n) (hl : H l = some (.lst xs)) : RuT K (upd H l o) a t ys n := by
  obtain ⟨dx, f, g, h1, h2⟩ := h
  exact ⟨dx, f, g, by rw [upd_ne (fun z => by rw [z, hl] at h1; exact nomatch h1)]; exact h1, by rw [upd_ne (fun z => by rw [z, hl] at h2; exact nomatch h2)]; exact h2⟩
theorem showL_rules (e : Ev X.K X.mg) {H : Hp} {l a t : Addr} {ys : List Str} {n : Int} {xs : List V} (h : H l = some (.lst xs)) (hR : RuT X.K H a t ys n) (hx : ∀ v ∈ xs, v = .non ∨ v = .ref a) (hl : xs.length ≤ 10) (hyl : ys.length ≤ 64) (hk : ∀ s ∈ ys, keyS s = true) (ht : TxOk n) :
    ShowL X 1 [] (.ref l) H (listText (xs.map (rulTx ys n))) := by
  obtain ⟨fd, M, G, b⟩ := hasG_RuRepr (P := X.prog) (w := X.w) (base := X.base) e
  have hz : (listText (xs.map (rulTx ys n))).length ≤ sizeLine := by
    have h1 : ∀ t ∈ xs.map (rulTx ys n), t.length ≤ 800010 := fun t' ht' => by
      obtain ⟨v, hv, rfl⟩ := List.mem_map.mp ht'
      rcases hx v hv with rfl | rfl
      · show ("None" : Str).length ≤ _
        decide
      · exact ruTxt_len hk ht hyl
    have h2 := list_le h1
    rw [List.length_map] at h2
    rw [sizeLine_eq]
    omega
  have hne : l ∉ [t] := fun hm => by
    obtain ⟨dx, f, g, h1, h2⟩ := hR
    rw [List.mem_singleton.mp hm, h2] at h
    exact nomatch h
  refine ⟨l, fun H' => H' l = some (.lst xs) ∧ RuT X.K H' a t ys n, fun H' => RuT X.K H' a t ys n, xs, _, [t], rfl, rfl, ⟨fun H H' s h => h.mono s, fun H oa hh => hh.2.upd hh.1, fun H h => h.1, hne, by rw [List.length_map], fun i x hxi => ?_⟩, hz, GTr.nil, fun _ _ => Clear.nil _, h, hR⟩
  refine ⟨_, by rw [List.getElem?_map, hxi]; rfl, ?_⟩
  rcases hx x (List.mem_of_getElem? hxi) with rfl | rfl
  · exact rpf_non.i
  · refine RpI.own (C := ga X.K "Rule") G b M.at_ M.fn (fun H ⟨dx, f, g, h1, _⟩ => ⟨dx, _, h1⟩) (fun H g hp _ hc => ?_)
    exact ⟨a, t, ys, n, rfl, hp, hc t (List.mem_singleton.mpr rfl), hyl, hk, ht, rfl, Same.refl _⟩
end
/-! ### sizes -/
theorem dot_le {M : Nat} {t : Row} (ht : ∀ k, (atR t k).natAbs ≤ M) : ∀ {r : Row}, (∀ p ∈ r, p.2.natAbs ≤ 3) → (dotR r t).natAbs ≤ r.length * (3 * M)
  | [], _ => by show (0 : Int).natAbs ≤ _; simp
  | p :: r, h => by
    have h1 := dot_le ht (r := r) fun q hq => h q (List.mem_cons_of_mem _ hq)
    have h2 := h p List.mem_cons_self
    have h3 := ht p.1
    have e : dotR (p :: r) t = p.2 * atR t p.1 + dotR r t := rfl
    have h4 : (p.2 * atR t p.1).natAbs ≤ 3 * M := by rw [Int.natAbs_mul]; exact Nat.mul_le_mul h2 h3
    have h5 := Int.natAbs_add_le (p.2 * atR t p.1) (dotR r t)
    rw [e, List.length_cons, Nat.add_mul, Nat.one_mul]
    omega
theorem small_shown {ks : List Str} {rows : List Row} {M : Nat} {t : Row} (hg : GoodRows ks rows) (hk : ks.length ≤ 3) (ht : TabOk ks M t) (hM : M < 2 ^ szT) : SmallI (shownR rows t) := by
  refine ⟨by rw [shownR_len]; have := hg.1; omega, fun n hn => ?_⟩
  obtain ⟨r, hr, rfl⟩ := List.mem_map.mp hn
  have hgr := hg.2 r hr
  have h1 := dot_le ht.sm hgr.2.2
  have h2 := hgr.len
  have h3 : r.length * (3 * M) ≤ 3 * (3 * M) := Nat.mul_le_mul (by omega) (Nat.le_refl _)
  have e9 : (2 : Nat) ^ (szT + 4) = 16 * 2 ^ szT := by rw [Nat.pow_add]; omega
  have h4 : (dotR r t).natAbs < 2 ^ (szT + 4) := by rw [e9]; omega
  exact PySem.Flt.log2_lt_of (by decide) (Nat.lt_of_lt_of_le h4 (Nat.pow_le_pow_right (by decide) (by decide)))
theorem TnOk.are {Hb H : Hp} {h t u wa : Addr} {nt : V} {nm : Str} {rows : List Row} {md : List MdE} {ks : List Str} {M : Nat} {Pr : V → Prop} {es : List KtE} {wsk : List SkE} (T : TnOk K Hb H h t u nm rows md ks M Pr es) (hnt : RowsR K Hb nt rows) (hg : GoodRows ks rows) (hk : ks.length ≤ 3) (hM : M < 2 ^ szT)
    (hw : SkA K Hb wa wsk) (hof : SkOf md wsk) : AreOk K H h t wa nt nm rows md es := by
  refine ⟨T.hh, T.ht, fun e he => ⟨T.kpOf he, (T.st e he).of_, (T.st e he).nm, (T.st e he).sh⟩, mn_Rows _ _ _ _ T.sub hnt, by have := hg.1; omega, fun r hr => ?_, fun e he k => Nat.lt_of_le_of_lt ((T.tb e he).sm k) hM, fun e he => small_shown hg hk (T.tb e he) hM, ⟨wsk, mn_SkA T.sub hw, hof⟩, by rw [T.len]; decide⟩
  have hgr := hg.2 r hr
  refine ⟨by have := hgr.len; omega, fun p hp => Nat.lt_of_le_of_lt (hgr.2.2 p hp) (by decide +kernel)⟩
end NG

set_option Elab.async false
set_option linter.all false
set_option maxRecDepth 100000
set_option maxHeartbeats 400000
/-! helpers for _law_right -/
namespace NG
open PySem PySem.Spec PyProof.Rows L2 He
variable {K : Fg}
def dels (l : List Addr) (H : Hp) : Hp := fun c => if c ∈ l then none else H c
theorem dels_same {l : List Addr} {H : Hp} : Same (dels l H) H := fun c o e => by
  unfold dels at e
  split at e
  · exact nomatch e
  · exact e
theorem dels_in {l : List Addr} {H : Hp} {c : Addr} (h : c ∈ l) : dels l H c = none := by unfold dels; rw [if_pos h]
theorem dels_at {l : List Addr} {H : Hp} {c : Addr} {o : HO} (n : c ∉ l) (h : H c = some o) : dels l H c = some o := by unfold dels; rw [if_neg n]; exact h
theorem same_dels {l : List Addr} {H0 H : Hp} (s : Same H0 H) (n : ∀ c ∈ l, H0 c = none) : Same H0 (dels l H) := fun c o e => dels_at (fun hc => by rw [n c hc] at e; exact nomatch e) (s _ _ e)
theorem none_back {H H' : Hp} {c : Addr} (s : Same H H') (h : H' c = none) : H c = none := by
  cases hq : H c with
  | none => rfl
  | some o => have := s _ _ hq; rw [h] at this; exact nomatch this
/-- lists and kept notes -/
def Mu (o : HO) : Prop := (∃ xs, o = .lst xs) ∨ ∃ C dx fs, o = .ins C dx fs ∧ fs.lookup ("own_state" : Str) ≠ none
def MuL (l : List Addr) (H : Hp) : Prop := ∀ c ∈ l, ∃ o, H c = some o ∧ Mu o
def MuK (l : List Addr) (H : Hp) : Prop := ∀ c ∈ l, ∃ C dx fs, H c = some (.ins C dx fs) ∧ fs.lookup ("own_state" : Str) ≠ none
theorem dels_mu {l : List Addr} {H : Hp} (m : MuL l H) {c : Addr} {o : HO} (n : ¬ Mu o) (h : H c = some o) : dels l H c = some o := dels_at (fun hc => by
  obtain ⟨o', h1, h2⟩ := m c hc
  rw [h] at h1
  cases h1
  exact n h2) h
theorem dels_muk {l : List Addr} {H : Hp} (m : MuK l H) {c : Addr} {o : HO} (n : ∀ C dx fs, o = .ins C dx fs → fs.lookup ("own_state" : Str) = none) (h : H c = some o) : dels l H c = some o := dels_at (fun hc => by
  obtain ⟨C, dx, fs, h1, h2⟩ := m c hc
  rw [h] at h1
  cases h1
  exact h2 (n _ _ _ rfl)) h
theorem f1_ns {f : Str} {v : V} (h : ¬ ("own_state" : Str) = f) : (f1 f v).lookup ("own_state" : Str) = none := by
  unfold f1
  rw [lookup_putF, if_neg h]
  rfl
theorem rfs_ns (t b : Int) : (rfs t b).lookup ("own_state" : Str) = none := by
  unfold rfs
  rw [lookup_putF, if_neg (by decide), lookup_putF, if_neg (by decide)]
  rfl
theorem note_dels {l : List Addr} {H : Hp} (m : MuK l H) {a : Addr} {n : List Row} (h : NoteA K H a n) : NoteA K (dels l H) a n := by
  obtain ⟨dx, b, h1, us, h2, h3⟩ := h
  refine ⟨dx, b, dels_muk m (fun _ _ _ z => by cases z; exact f1_ns (by decide)) h1, us, dels_muk m (fun _ _ _ z => nomatch z) h2, h3.imp fun v r _ ⟨d, ed, hd⟩ => ⟨d, ed, dels_muk m (fun _ _ _ z => nomatch z) hd⟩⟩
theorem ska_dels {l : List Addr} {H : Hp} (m : MuK l H) {a : Addr} {sk : List SkE} (h : SkA K H a sk) : SkA K (dels l H) a sk := by
  obtain ⟨dx, d, kvs, h1, h2, h3, h4⟩ := h
  refine ⟨dx, d, kvs, dels_muk m (fun _ _ _ z => by cases z; exact f1_ns (by decide)) h1, dels_muk m (fun _ _ _ z => nomatch z) h2, h3, h4.imp fun v s _ ⟨T, x, y, e, hT, ⟨c, ec, dc, hc⟩, b, eb, hb⟩ => ?_⟩
  exact ⟨T, x, y, e, dels_muk m (fun _ _ _ z => nomatch z) hT, ⟨c, ec, dc, dels_muk m (fun _ _ _ z => by cases z; exact rfs_ns _ _) hc⟩, b, eb, note_dels m hb⟩
/-- a dict of pairs whose keys are all different -/
theorem merge_nd : ∀ (more kvs : List (Key × V)), (kvs.map (·.1) ++ more.map (·.1)).Nodup → mergeK kvs more = kvs ++ more
  | [], kvs, _ => by simp [mergeK]
  | p :: l, kvs, h => by
    have hp : p.1 ∉ kvs.map (·.1) := fun z => (List.nodup_append.mp h).2.2 _ z _ (by simp) rfl
    have ep : putK kvs p.1 p.2 = kvs ++ [p] := by
      unfold putK
      first
        | (rw [if_neg (by simpa using hp)])
        | skip
    have ih := merge_nd l (kvs ++ [p]) (by simpa using h)
    show mergeK (putK kvs p.1 p.2) l = _
    rw [ep, ih]
    simp
theorem merge_nd0 {kvs : List (Key × V)} (h : (kvs.map (·.1)).Nodup) : mergeK [] kvs = kvs := merge_nd kvs [] (by simpa using h)
/-- the seat before -/
theorem at_prev {α : Type} {xs : List α} {d : Nat} (h : d < xs.length) : ∃ b, b < xs.length ∧ (1 < xs.length → b ≠ d) ∧ atI xs (((d : Nat) : Int) - 1) = xs[b]? := by
  by_cases h0 : d = 0
  · subst h0
    refine ⟨xs.length - 1, by omega, fun _ => by omega, ?_⟩
    unfold atI ixN
    rw [if_neg (by omega), if_pos (by omega)]
    have e : ((((0 : Nat) : Int) - 1) + (xs.length : Int)).toNat = xs.length - 1 := by omega
    rw [e]; rfl
  · refine ⟨d - 1, by omega, fun _ => by omega, ?_⟩
    have e : ((d : Nat) : Int) - 1 = ((d - 1 : Nat) : Int) := by omega
    rw [e, atI_nat (List.getElem?_eq_getElem (by omega : d - 1 < xs.length)), List.getElem?_eq_getElem (by omega)]
theorem QuA.butL {H H' : Hp} {D a : Addr} {xs : List V} {r : Rat} (hD : H D = some (.lst xs)) (b : But D H H') (h : QuA K H a r) : QuA K H' a r := by
  obtain ⟨dx, d, h1, u, h2, c, rfl, dc, hc⟩ := h
  have ne : ∀ {c o}, H c = some o → (∀ xs, o ≠ .lst xs) → c ≠ D := fun hc n z => by rw [z, hD] at hc; exact n _ (Option.some.inj hc).symm
  exact ⟨dx, d, b _ _ (ne h1 fun _ z => nomatch z) h1, .ref c, b _ _ (ne h2 fun _ z => nomatch z) h2, c, rfl, dc, b _ _ (ne hc fun _ z => nomatch z) hc⟩
def isSQ (K : Fg) (r : Rat) : Rl Str := fun H v s => ∃ T q, v = .ref T ∧ H T = some (.tup [.str s, q]) ∧ isQu K H q r
theorem pairs_q {r : Rat} {H : Hp} : ∀ {ys : List V} {ns : List Str}, Each (isSQ K r) H ys ns → ∃ (ps : List Addr) (kvs : List (Key × V)), ys = ps.map V.ref ∧ Paired (fun p kv => SqT K H p [kV kv.1, kv.2]) ps kvs ∧ kvs.map (·.1) = ns.map Sum.inr ∧ Each (isQu K) H (kvs.map (·.2)) (ns.map fun _ => r)
  | _, _, .nil => ⟨[], [], rfl, .nil, rfl, .nil⟩
  | _, _, .cons (a := s) ⟨T, q, e, hT, hq⟩ t => by
    obtain ⟨ps, kvs, e1, e2, e3, e4⟩ := pairs_q t
    refine ⟨T :: ps, (Sum.inr s, q) :: kvs, by rw [e, e1]; rfl, .cons (SqT.of hT) e2, by rw [List.map_cons, List.map_cons, e3], .cons hq e4⟩
theorem kfs_st (s nm st) : (kfs s nm st).lookup ("own_state" : Str) ≠ none := by rw [kfs_state]; exact fun z => nomatch z
theorem KpA.butK {H H' : Hp} {a x s : Addr} {nm : Str} {ns : List Int} {ru : V} {C dx : Addr} {fs : List (Str × V)} (h : KpA K H a s nm ns ru) (hx : H x = some (.ins C dx fs)) (hn : a ≠ x) (b : But x H H') : KpA K H' a s nm ns ru := by
  obtain ⟨d, st, sh, h1, h2, h3⟩ := h
  exact ⟨d, st, sh, b _ _ hn h1, b _ _ (fun z => by rw [z, hx] at h2; exact nomatch h2) h2, b _ _ (fun z => by rw [z, hx] at h3; exact nomatch h3) h3⟩
theorem ruf_ns (f t g) : (ruf f t g).lookup ("own_state" : Str) = none := ruf_no (by decide) (by decide) (by decide)
theorem RuT.butK {H H' : Hp} {a t x : Addr} {ys : List Str} {n : Int} {C dx : Addr} {fs : List (Str × V)} (h : RuT K H a t ys n) (hx : H x = some (.ins C dx fs)) (hf : fs.lookup ("own_state" : Str) ≠ none) (b : But x H H') : RuT K H' a t ys n := by
  obtain ⟨d, f, g, h1, h2⟩ := h
  exact ⟨d, f, g, b _ _ (fun z => by rw [z, hx] at h1; cases h1; exact hf (ruf_ns _ _ _)) h1, b _ _ (fun z => by rw [z, hx] at h2; exact nomatch h2) h2⟩
theorem RuT.dels {l : List Addr} {H : Hp} {a t : Addr} {ys : List Str} {n : Int} (m : MuL l H) (h : RuT K H a t ys n) : RuT K (dels l H) a t ys n := by
  obtain ⟨d, f, g, h1, h2⟩ := h
  refine ⟨d, f, g, dels_mu m ?_ h1, dels_mu m ?_ h2⟩
  · rintro (⟨xs, z⟩ | ⟨C, dx, fs, z, hf⟩)
    · exact nomatch z
    · cases z; exact hf (ruf_ns _ _ _)
  · rintro (⟨xs, z⟩ | ⟨C, dx, fs, z, hf⟩) <;> exact nomatch z
theorem KpA.dels {l : List Addr} {H : Hp} {a s : Addr} {nm : Str} {ns : List Int} {ru : V} (m : MuL l H) (h : KpA K H a s nm ns ru) (hn : a ∉ l) : KpA K (dels l H) a s nm ns ru := by
  obtain ⟨d, st, sh, h1, h2, h3⟩ := h
  refine ⟨d, st, sh, dels_at hn h1, dels_mu m ?_ h2, dels_mu m ?_ h3⟩
  · rintro (⟨xs, z⟩ | ⟨C, dx, fs, z, hf⟩) <;> exact nomatch z
  · rintro (⟨xs, z⟩ | ⟨C, dx, fs, z, hf⟩) <;> exact nomatch z
theorem rep_ints : ∀ n : Nat, (List.replicate n [V.int 0]).flatten = (List.replicate n (0 : Int)).map V.int
  | 0 => rfl
  | n + 1 => by
    rw [List.replicate_succ, List.flatten_cons, rep_ints n, List.replicate_succ]
    rfl
theorem iteE {α : Type} [DecidableEq α] {x : α} {A B : Prop} (h : A) : if decide (x = x) = true then A else B := by
  rw [decide_eq_true rfl]
  exact h
theorem txok2 : TxOk 2 := by
  refine ⟨by decide +kernel, by decide +kernel⟩
end NG

set_option Elab.async false
set_option linter.all false
set_option maxRecDepth 100000
set_option maxHeartbeats 800000
/-! _law_right -/
namespace NG
open PySem PySem.Spec PyProof.Rows L2 He
variable {P : Program} {w : World} {K : Fg} {mg : Str → Option Value} {base : Heap}
abbrev nRi : List Str := ["rng", "keys", "model", "whole", "at", "name", "note", "held", "beside", "tables", "rules", "seed", "turn", "one"]
theorem sc_ri : FnScope nRi ["rng"] (defScope f__law_right) := ⟨rfl, rfl, rfl, by decide +kernel, rfl, by decide +kernel, by decide +kernel⟩
def spRi : SpG := fun g vs H Q _ => g = [] ∧ ∃ r, vs = [.ref r] ∧ H r = some (RngO r) ∧ ∀ H', Same H H' → Q (.bl true) H'
theorem has_right (e : Ev K mg) : HasGd P w K mg base 10 "_law_right" ["rng"] spRi := by
  obtain ⟨fd, F⟩ := e.F_f__law_right
  refine ⟨_, fd, e.g__law_right, ?_, F.kp, F.bindsN fun _ _ _ _ _ _ us hl => match us, hl with | [_], _ => rfl⟩
  obtain ⟨f1', d1, m1, G1, k1, b1⟩ := has_draw (P := P) (w := w) (base := base) e
  obtain ⟨f2', d2, m2, G2, k2, b2⟩ := has_names (P := P) (w := w) (base := base) e
  obtain ⟨f3', d3, m3, G3, k3, b3⟩ := has_model (P := P) (w := w) (base := base) e
  obtain ⟨f4', d4, m4, G4, k4, b4⟩ := has_lsk (P := P) (w := w) (base := base) e
  obtain ⟨f5', d5, m5, G5, k5, b5⟩ := has_are (P := P) (w := w) (base := base) e
  obtain ⟨f6', d6, m6, G6, k6, b6⟩ := has_turned (P := P) (w := w) (base := base) e
  obtain ⟨d7, ds7, M7, m7, G7, v7, b7⟩ := hasC_Kept (P := P) (w := w) (base := base) e
  obtain ⟨d8, ds8, M8, m8, G8, v8, b8⟩ := hasC_Rule (P := P) (w := w) (base := base) e
  obtain ⟨d9, r9, c9, G9, b9⟩ := hasK_constant (P := P) (w := w) (base := base) e
  obtain ⟨da, Ma, Ga, ba⟩ := hasM_SSeeds (P := P) (w := w) (base := base) e
  obtain ⟨db, Mb, Gb, bb⟩ := hasM_KUse (P := P) (w := w) (base := base) e
  obtain ⟨dc, pc, Gc, bc⟩ := hasP_rule (P := P) (w := w) (base := base) e
  obtain ⟨dd, pd, Gd, bd⟩ := hasP_shown (P := P) (w := w) (base := base) e
  obtain ⟨de, Me, Ge, be⟩ := hasM_KEq (P := P) (w := w) (base := base) e
  obtain ⟨df, Mf, Gf, bf⟩ := hasM_SEq (P := P) (w := w) (base := base) e
  refine F.okGD sc_ri (fun g vs H Q E h => ?_) (fun cdv A outer s H vs Q E g hg hr h => ?_)
  · obtain ⟨_, r, rfl, _⟩ := h; rfl
  · obtain ⟨rfl, r, rfl, hbr, q⟩ := h
    have hgs := (deeper_guards A (envOfC "_law_right" (defScope f__law_right) s.heap.objs.size (fAd K ("_law_right", none)) cdv)).trans hg
    have hr1 := hr.mono (show 1 ≤ 9 by decide)
    have hr2 := hr.mono (show 2 ≤ 9 by decide)
    have hr3 := hr.mono (show 3 ≤ 9 by decide)
    have hr4 := hr.mono (show 4 ≤ 9 by decide)
    have hr5 := hr.mono (show 5 ≤ 9 by decide)
    have hr6 := hr.mono (show 6 ≤ 9 by decide)
    have hr7 := hr.mono (show 7 ≤ 9 by decide)
    have hr8 := hr.mono (show 8 ≤ 9 by decide)
    refine ⟨_, pss_cons (ps_set (i := 1) sc_ri.nd rfl (Or.inl rfl) (pe_call G2 hr3 rfl m2 k2 b2 .nil pass0 (pa_cons (pv 0) (pa_cons (pe_op op_add pe_int (pe_call G1 hr1 rfl m1 k1 b1 .nil pass0 (pa_cons (pv 0) (pa_cons pe_int pa_nil)))) (pa_cons (pe_lst pa_nil) pa_nil)))))
      (pss_cons (ps_set (i := 2) sc_ri.nd rfl (Or.inl rfl) (pe_call G3 hr4 rfl m3 k3 b3 .nil pass0 (pa_cons (pv 0) (pa_cons (pv 1) (pa_cons pe_int (pa_cons pe_int pa_nil))))))
      (pss_cons (ps_par (i := 3) (j := 4) rfl sc_ri.nd rfl rfl (by decide) rfl rfl (pa_cons (pe_call G4 hr8 rfl m4 k4 b4 .nil pass0 (pa_cons (pv 2) pa_nil)) (pa_cons (pe_call G1 hr1 rfl m1 k1 b1 .nil pass0 (pa_cons (pv 0) (pa_cons (pe_callB call_len_seq rfl e.b_len boot_len (pa_cons (pv 2) pa_nil)) pa_nil))) pa_nil)) rfl)
      (pss_cons (ps_par (i := 5) (j := 6) rfl sc_ri.nd rfl rfl (by decide) rfl rfl (pa_cons (pe_ix ix_tup (pe_ix ix_list (pv 2) (pv 4) (fun _ _ => rfl)) pe_int (fun _ _ => rfl)) (pa_cons (pe_ix ix_tup (pe_ix ix_list (pv 2) (pv 4) (fun _ _ => rfl)) pe_int (fun _ _ => rfl)) pa_nil)) rfl)
      (pss_cons (ps_set (i := 7) sc_ri.nd rfl (Or.inl rfl) (pe_lst (pa_cons (pe_make M7 G7 hr5 rfl m7 b7 v7 pass0 (pa_cons (pv 3) (pa_cons (pv 5) pa_nil))) (pa_cons (pe_make M7 G7 hr5 rfl m7 b7 v7 pass0 (pa_cons (pv 3) (pa_cons (pv 5) pa_nil)))
          (pa_cons (pe_make M7 G7 hr5 rfl m7 b7 v7 pass0 (pa_cons (pe_call G4 hr8 rfl m4 k4 b4 .nil pass0 (pa_cons (pv 2) pa_nil)) (pa_cons (pv 5) pa_nil))) pa_nil)))))
      (pss_cons (ps_asg (pe_tup (pa_cons (pe_make M7 G7 hr5 rfl m7 b7 v7 pass0 (pa_cons (pv 3) (pa_cons (pe_ix ix_tup (pe_ix ix_list (pv 2) (pe_op op_sub (pv 4) pe_int) (fun _ _ => rfl)) pe_int (fun _ _ => rfl)) pa_nil))) (pa_cons (pe_lst (pa_cons pe_dnewK (pa_cons pe_dnewK (pa_cons pe_dnewK pa_nil)))) pa_nil)))
          (pg_tup rfl (pgs_cons (pg_name (i := 8) sc_ri.nd rfl (Or.inr rfl)) (pgs_cons (pg_name (i := 9) sc_ri.nd rfl (Or.inl rfl)) pgs_nil))))
      (pss_cons (ps_set (i := 10) sc_ri.nd rfl (Or.inl rfl) (pe_lst (pa_cons pe_non (pa_cons (pe_make M8 G8 hr7 rfl m8 b8 v8 pass0 (pa_cons (pe_callTy (call_dictP rfl) rfl e.b_dict boot_dict (pa_cons (pe_lc (own := [("seed", 11)]) (g := gName 11) (tt := tYes) rfl sc_ri.nd (pi_list (pe_meth0 (pv 3) e.cl_Sketch Ma Ga hr1 ba .nil pass0)) (blkOk_by (N := nRi) (sc := defScope f__law_right) (by decide +kernel))
            (fun _ _ _ _ _ => pg_name (i := 11) sc_ri.nd rfl (Or.inl rfl)) (fun _ _ _ _ _ => pts_nil) (fun _ _ _ _ _ => pe_tup (pa_cons (pv 11) (pa_cons (ClX.pe_cmeth (pe_glob rfl e.g_Question (v := .ref (ga K "Question")) rfl) r9 c9 (G9.raw b9 .nil) hr8 pass0 (pa_cons pe_int pa_nil)) pa_nil)))) pa_nil)) pa_nil)) (pa_cons pe_non pa_nil)))))
      (pss_cons (ps_expr (pe_meth (pe_ix ix_list (pv 7) pe_int (fun _ _ => rfl)) e.cl_Kept Mb Gb hr7 bb .nil pass0 (pa_cons (pe_ix ix_list (pv 10) pe_int (fun _ _ => rfl)) pa_nil)))
      (pss_cons (ps_if (pt_not (pt_val (pe_callG G5 hgs hr rfl m5 k5 b5 .nil pass0 (pa_cons (pv 7) (pa_cons (pv 9) (pa_cons (pv 5) (pa_cons (pv 6) (pa_cons (pv 3) pa_nil)))))))) (pss_one (ps_ret pe_bl)) pss_nil)
      (pss_cons (ps_for (g := gName 12) PassesOwn.never rfl (pi_range1 rfl e.b_range (pa_cons (pe_op op_add pe_int (pe_call G1 hr1 rfl m1 k1 b1 .nil pass0 (pa_cons (pv 0) (pa_cons pe_int pa_nil)))) pa_nil)) (pg_name (i := 12) sc_ri.nd rfl (Or.inl rfl))
        (pss_cons (ps_if (PW.pt (pw_or (pt_not (pt_val (pe_call G6 hr rfl m6 k6 b6 .nil pass0 (pa_cons (pv 0) (pa_cons (pv 7) (pa_cons (pv 9) (pa_cons (pv 1) (pa_cons (pv 10) pa_nil)))))))) (pw_or1 (pt_not (pt_val (pe_callG G5 hgs hr rfl m5 k5 b5 .nil pass0 (pa_cons (pv 7) (pa_cons (pv 9) (pa_cons (pv 5) (pa_cons (pv 6) (pa_cons (pv 3) pa_nil)))))))))))
          (pss_one (ps_ret pe_bl)) pss_nil)
        (pss_one (ps_if (pt_cmpR op_ne (pe_callB (call_reprL (k := 1) (g := []) hgs hr3) rfl e.b_repr boot_repr (pa_cons (pe_lc (own := [("one", 13)]) (g := gName 13) (tt := tYes) rfl sc_ri.nd (pi_list (pv 7)) (blkOk_by (N := nRi) (sc := defScope f__law_right) (by decide +kernel))
            (fun _ _ _ _ _ => pg_name (i := 13) sc_ri.nd rfl (Or.inl rfl)) (fun _ _ _ _ _ => pts_nil) (fun _ _ _ _ _ => pe_prop (pv 13) e.cl_Kept pc Gc hr2 bc .nil pass0 rfl)) pa_nil))
          (pe_callB (call_reprL (k := 1) (g := []) hgs hr3) rfl e.b_repr boot_repr (pa_cons (pv 10) pa_nil)) (nomark _)) (pss_one (ps_ret pe_bl)) pss_nil))))
      (pss_cons (ps_if (PW.pt (pw_and (pt_cmpR op_gt (pe_callB call_len_seq rfl e.b_len boot_len (pa_cons (pv 2) pa_nil)) pe_int (nomark _)) (pw_and1 (pt_val (pe_callB (cr_any rfl) rfl e.b_any (by decide +kernel) (pa_cons (pe_lc (own := [("one", 13)]) (g := gName 13) (tt := tYes) rfl sc_ri.nd (pi_list (pv 7)) (blkOk_by (N := nRi) (sc := defScope f__law_right) (by decide +kernel))
            (fun _ _ _ _ _ => pg_name (i := 13) sc_ri.nd rfl (Or.inl rfl)) (fun _ _ _ _ _ => pts_nil) (fun _ _ _ _ _ => pe_or (pe_cmpR (op_eqO Ge hr7 Me.at_ Me.fn be) (pv 13) (pv 8) (nomark _)) (pe_one (pe_not (pe_cmpR (op_neO Ge hr8 e.ty_Kept e.ne_Kept Me.at_ Me.fn be) (pv 13) (pv 8) (nomark _)))))) pa_nil)))))) (pss_one (ps_ret pe_bl)) pss_nil)
      (pss_one (ps_ret (pe_and (pe_cmpR op_eq (pe_callB (call_reprTI hgs hr2) rfl e.b_repr boot_repr (pa_cons (pe_prop (pv 8) e.cl_Kept pd Gd hr2 bd .nil pass0 rfl) pa_nil))
            (pe_callB (call_reprTI hgs hr2) rfl e.b_repr boot_repr (pa_cons (pe_op op_repN (pe_tup (pa_cons pe_int pa_nil)) (pe_callB call_len_seq rfl e.b_len boot_len (pa_cons (pe_ix ix_tup (pe_ix ix_list (pv 2) (pe_op op_sub (pv 4) pe_int) (fun _ _ => rfl)) pe_int (fun _ _ => rfl)) pa_nil))) pa_nil)) (nomark _))
          (pe_one (pe_cmpR (op_eqO Gf hr6 Mf.at_ Mf.fn bf) (pv 3) (pe_call G4 hr8 rfl m4 k4 b4 .nil pass0 (pa_cons (pv 2) pa_nil)) (nomark _)))))))))))))))), ?_⟩
    refine ⟨_, rfl, _, rfl, r, 3, rfl, by decide, by decide, hbr, fun n0 H1 hn0 s1 => ?_⟩
    refine ⟨_, _, rfl, rfl, Nat.zero_le _, fun p0 hp0 => ?_⟩
    have x1 := same_upd (o := .lst []) hp0
    refine ⟨r, p0, 1 + n0, (by rw [show ((1 + n0 : Nat) : Int) = 1 + (n0 : Int) by omega]; rfl), (s1.trans x1) _ _ hbr, SqL.of upd_same, by omega, by omega, fun ka ks H2 s2 hks hlk hndk hnk => ?_⟩
    have hk3 : ks.length ≤ 3 := by omega
    have hkk : ∀ k ∈ ks, keyS k = true := fun k hk => (hnk k hk).key (by decide)
    have s02 := (s1.trans x1).trans s2
    refine ⟨_, rfl, _, rfl, r, ka, ks, rfl, s02 _ _ hbr, SqL.of hks, hndk, hk3, fun vm md H3 s3 hmd hgm hm1 hm4 => ?_⟩
    have s03 := s02.trans s3
    refine ⟨_, rfl, vm, md, ks, rfl, hmd, hgm, hm1, hm4, hk3, hkk, fun vu wsk H4 s4 hsk hof => ?_⟩
    obtain ⟨wa, rfl, hsk⟩ := hsk
    have s04 := s03.trans s4
    have hmd4 := mn_Mds _ _ _ _ s4 hmd
    obtain ⟨am, ws, rfl, hws, hew⟩ := id hmd4
    refine ⟨_, rfl, _, rfl, am, ws, rfl, .inl hws, r, md.length, (by rw [hew.length]; rfl), hm1, by omega, s04 _ _ hbr, fun at_ H5 hat s5 => ?_⟩
    refine ⟨_, _, rfl, ?_⟩
    have s05 := s04.trans s5
    have hmd5 := mn_Mds _ _ _ _ s5 hmd4
    have hws5 := s5.seq hws
    have hew5 := hew.mono mn_Md s5
    have hsk5 := mn_SkA s5 hsk
    obtain ⟨m0, hm0⟩ : ∃ m0, md[at_]? = some m0 := ⟨_, List.getElem?_eq_getElem hat⟩
    have hmm0 : m0 ∈ md := List.mem_of_getElem? hm0
    obtain ⟨v0, hv0, T0, nt, rfl, hT0, hnt⟩ := at_each hew5 hm0
    refine ⟨_, rfl, _, rfl, am, ws, _, _, rfl, rfl, hws5, atI_nat hv0, T0, _, 0, _, rfl, rfl, SqT.of hT0, rfl, ?_⟩
    refine ⟨_, rfl, _, rfl, am, ws, _, _, rfl, rfl, hws5, atI_nat hv0, T0, _, 2, _, rfl, rfl, SqT.of hT0, rfl, ?_⟩
    refine ⟨_, _, rfl, ?_⟩
    -- the seed in the sketch
    have hSk := sk_ok hgm hm1 hm4 hk3 hof
    obtain ⟨m1', hm1', e1⟩ := paired_get hof hm0
    have hmem1 : m1' ∈ wsk := List.mem_of_getElem? hm1'
    have hgr0 := (hgm.2 m0 hmm0).2
    have hlen1 : m1'.2.2.length = m0.2.2.length := (Paired.length e1.2.2).symm
    have hrow0 : ∀ r ∈ m0.2.2, (r.map (·.1)).Nodup := fun r hr => (hgr0.2 r hr).1
    have hsh1 : ∀ t, shownR m1'.2.2 t = shownR m0.2.2 t := fun t => kept_shown hrow0 e1.2.2
    have hsm1 : SmallN m1'.2.2 := ⟨by have := hgr0.1; omega, fun r hr => by
      obtain ⟨r0, hr0, hk0⟩ := paired_mem e1.2.2 r hr
      have hg := kept_good (hgr0.2 r0 hr0) hk0
      exact ⟨⟨by have := hg.len; omega, fun p hp => Nat.lt_of_le_of_lt (hg.2.2 p hp) (by decide +kernel)⟩, fun p hp => hkk _ (hg.2.1 _ (List.mem_map.mpr ⟨p, hp, rfl⟩))⟩⟩
    have hl100 : m1'.2.2.length ≤ 100 := hsm1.1
    -- held
    refine ⟨_, rfl, _, rfl, fun a1 d1 na1 nd1 ne1 => ?_⟩
    refine ⟨a1, d1, wa, wsk, m1', (by rw [e1.1]; rfl), mn_SkA (made_mono na1 nd1) hsk5, hSk.nd, hmem1, hSk.key _ hmem1, hl100, upd_same, fun H6 b6 hK1 => ⟨rfl, ?_⟩⟩
    have s6 := made_same na1 nd1 b6
    refine ⟨_, rfl, _, rfl, fun a2 d2 na2 nd2 ne2 => ?_⟩
    refine ⟨a2, d2, wa, wsk, m1', (by rw [e1.1]; rfl), mn_SkA (s6.trans (made_mono na2 nd2)) hsk5, hSk.nd, hmem1, hSk.key _ hmem1, hl100, upd_same, fun H7 b7 hK2 => ⟨rfl, ?_⟩⟩
    have s7 := made_same na2 nd2 b7
    have s57 := s6.trans s7
    refine ⟨_, rfl, _, md, ks, rfl, mn_Mds _ _ _ _ s57 hmd5, hgm, hm1, hm4, hk3, hkk, fun vu2 sk2 H8 s8 hsk2 hof2 => ?_⟩
    obtain ⟨wa2, rfl, hsk2⟩ := hsk2
    have hSk2 := sk_ok hgm hm1 hm4 hk3 hof2
    obtain ⟨m2', hm2', e2⟩ := paired_get hof2 hm0
    have hmem2 : m2' ∈ sk2 := List.mem_of_getElem? hm2'
    have hlen2 : m2'.2.2.length = m0.2.2.length := (Paired.length e2.2.2).symm
    have hsh2 : ∀ t, shownR m2'.2.2 t = shownR m0.2.2 t := fun t => kept_shown hrow0 e2.2.2
    have hsm2 : SmallN m2'.2.2 := ⟨by have := hgr0.1; omega, fun r hr => by
      obtain ⟨r0, hr0, hk0⟩ := paired_mem e2.2.2 r hr
      have hg := kept_good (hgr0.2 r0 hr0) hk0
      exact ⟨⟨by have := hg.len; omega, fun p hp => Nat.lt_of_le_of_lt (hg.2.2 p hp) (by decide +kernel)⟩, fun p hp => hkk _ (hg.2.1 _ (List.mem_map.mpr ⟨p, hp, rfl⟩))⟩⟩
    refine ⟨_, rfl, fun a3 d3 na3 nd3 ne3 => ?_⟩
    refine ⟨a3, d3, wa2, sk2, m2', (by rw [e2.1]; rfl), mn_SkA (made_mono na3 nd3) hsk2, hSk2.nd, hmem2, hSk2.key _ hmem2, hsm2.1, upd_same, fun H9 b9' hK3 => ⟨rfl, ?_⟩⟩
    have s9 := made_same na3 nd3 b9'
    refine ⟨(by show 3 ≤ sizeLine; decide), fun h hh0 => ?_⟩
    have s10 := same_upd (o := .lst [.ref a1, .ref a2, .ref a3]) hh0
    have s5a := ((s57.trans s8).trans s9).trans s10
    -- beside
    have hew5a := hew5.mono mn_Md s5a
    have hws5a := s5a.seq hws5
    obtain ⟨bi, hbi, hbne, hatb⟩ := at_prev (xs := ws) (d := at_) (by rw [hew.length]; exact hat)
    obtain ⟨mb, hmb⟩ : ∃ mb, md[bi]? = some mb := ⟨_, List.getElem?_eq_getElem (by rw [← hew.length]; exact hbi)⟩
    have hmmb : mb ∈ md := List.mem_of_getElem? hmb
    obtain ⟨vb, hvb, Tb, ntb, rfl, hTb, hntb⟩ := at_each hew5a hmb
    obtain ⟨mbs, hmbs, eb⟩ := paired_get hof hmb
    have hmemb : mbs ∈ wsk := List.mem_of_getElem? hmbs
    have hlenb : mbs.2.2.length = mb.2.2.length := (Paired.length eb.2.2).symm
    have hb3 : mb.2.2.length ≤ 3 := (hgm.2 mb hmmb).2.1
    refine ⟨_, rfl, _, rfl, _, rfl, _, _, rfl, rfl, am, ws, _, _, rfl, rfl, hws5a, by rw [hatb]; exact hvb, Tb, _, 0, _, rfl, rfl, SqT.of hTb, rfl, fun xb db nab ndb neb => ?_⟩
    refine ⟨xb, db, wa, wsk, mbs, (by rw [eb.1]; rfl), mn_SkA (s5a.trans (made_mono nab ndb)) hsk5, hSk.nd, hmemb, hSk.key _ hmemb, by omega, upd_same, fun H11 b11 hKb => ⟨rfl, ?_⟩⟩
    have s11 := made_same nab ndb b11
    rw [hlenb, eb.1] at hKb
    intro p1 hp1 p2 hp2 p3 hp3
    refine ⟨(by show 3 ≤ sizeLine; decide), fun t ht0 => ⟨(by show 2 ≤ sizeLine; decide), fun Tt hTt => ?_⟩⟩
    have g1 := same_upd (o := .dK []) hp1
    have g2 := same_upd (o := .dK []) hp2
    have g3 := same_upd (o := .dK []) hp3
    have g4 := same_upd (o := .lst [.ref p1, .ref p2, .ref p3]) ht0
    have g5 := same_upd (o := .tup [.ref xb, .ref t]) hTt
    refine ⟨Tt, _, rfl, SqT.of upd_same, rfl, _, _, rfl, _, _, rfl, rfl, ?_⟩
    have hT5 : (upd (upd (upd (upd (upd H11 p1 (.dK [])) p2 (.dK [])) p3 (.dK [])) t (.lst [.ref p1, .ref p2, .ref p3])) Tt (.tup [.ref xb, .ref t])) t = some (.lst [.ref p1, .ref p2, .ref p3]) := g5 _ _ upd_same
    have hP1 := g5 _ _ (g4 _ _ (g3 _ _ (g2 _ _ (upd_same (H := H11) (a := p1) (o := .dK [])))))
    have hP2 := g5 _ _ (g4 _ _ (g3 _ _ (upd_same (H := upd H11 p1 (.dK [])) (a := p2) (o := .dK []))))
    have hP3 := g5 _ _ (g4 _ _ (upd_same (H := upd (upd H11 p1 (.dK [])) p2 (.dK [])) (a := p3) (o := .dK [])))
    have g15 := g1.trans (g2.trans (g3.trans (g4.trans g5)))
    have nt11 : H11 t = none := none_back (g1.trans (g2.trans g3)) ht0
    generalize (upd (upd (upd (upd (upd H11 p1 (.dK [])) p2 (.dK [])) p3 (.dK [])) t (.lst [.ref p1, .ref p2, .ref p3])) Tt (.tup [.ref xb, .ref t])) = H12 at hT5 hP1 hP2 hP3 g15 ⊢
    have s5c := s5a.trans (s11.trans g15)
    -- the rule
    obtain ⟨dw, dwd, kvw, hw1, hw2, hw3, hw4⟩ := id (mn_SkA s5c hsk5)
    refine ⟨_, rfl, wa, dw, _, rfl, hw1, f1_no (by decide), .ref wa, wsk, rfl, ⟨wa, rfl, dw, dwd, kvw, hw1, hw2, hw3, hw4⟩, fun l H13 s13 hl13 => ?_⟩
    have hndn : (wsk.map (·.1)).Nodup := hSk.nd
    refine ⟨l, rfl, ⟨_, SqL.of hl13⟩, fun D hD => ?_⟩
    refine lc_src (src_list (bs := wsk.map (·.1)) (R := isS) mn_isS (Each.map V.str fun _ _ => rfl)) (isSQ K ((2 : Int) : Rat)) (fun s => s) (fun _ => true) ⟨Same.refl _, SqL.of hl13⟩ hD (small1000 (by rw [List.length_map]; have := hSk.few; omega)) ?_ ?_
    · intro i b x H14 acc Nx hb s14 _ hx hD14 hl14 _ _ kT
      obtain rfl : x = .str b := hx
      refine ⟨rfl, tYes_of ?_⟩
      refine ⟨_, rfl, rfl, .int 2, ((2 : Int) : Rat), rfl, .inl ⟨2, rfl, rfl⟩, by decide, fun aq H15 s15 hq => ?_⟩
      refine ⟨(by show 2 ≤ sizeLine; decide), fun T hT => ?_⟩
      have sT := same_upd (o := .tup [.str b, .ref aq]) hT
      have hD15 := (s15.trans sT) _ _ hD14
      refine ⟨acc, hD15, hl14, kT rfl _ _ (s15.trans sT) fun H5 b5 => ⟨T, .ref aq, rfl, b5 _ _ (fun z => ?_) upd_same, aq, rfl, (hq.mono sT).butL hD15 b5⟩⟩
      rw [z, s15 _ _ hD14] at hT
      exact nomatch hT
    intro H14 ys14 s14 hy14 he14
    have he14' := he14 H14 fun _ _ _ z => z
    rw [filt, List.map_id'] at he14'
    obtain ⟨ps, kvq, epq, hpq, hkq, heq⟩ := pairs_q he14'
    refine ⟨D, ps, kvq, rfl, SqL.of (by rw [hy14, epq]), hpq, fun pd hpd => ?_⟩
    have hndq : (kvq.map (·.1)).Nodup := by rw [hkq]; exact List.Pairwise.map _ (fun a b hab z => hab (Sum.inr.inj z)) hndn
    rw [merge_nd0 hndq]
    have s15 := same_upd (o := .dK kvq) hpd
    have s5e := s5c.trans (s13.trans (s14.trans s15))
    have hFs : FsD K (upd H14 pd (.dK kvq)) pd (wsk.map (·.1)) ((2 : Int) : Rat) := ⟨kvq, upd_same, hkq, heq.mono mn_Qu s15⟩
    intro xr dr nxr ndr ner
    refine ⟨xr, dr, pd, wsk.map (·.1), 2, rfl, hFs.mono (same_del (made_mono nxr ndr) nxr), hndn, by rw [List.length_map]; have := hSk.few; omega, fun s hs => ?_, by decide, by decide, upd_same, fun H16 yr b16 hperm hsrt hRu => ⟨rfl, ?_⟩⟩
    · obtain ⟨m, hm, rfl⟩ := List.mem_map.mp hs
      exact hSk.key m hm
    have s16 := made_same nxr ndr b16
    refine ⟨(by show 3 ≤ sizeLine; decide), fun u hu0 => ?_⟩
    have s17 := same_upd (o := .lst [.non, .ref xr, .non]) hu0
    have s5g := s5e.trans (s16.trans s17)
    have sc17 := s13.trans (s14.trans (s15.trans (s16.trans s17)))
    have hu17 : upd H16 u (.lst [.non, .ref xr, .non]) u = some (.lst [.non, .ref xr, .non]) := upd_same
    have hRu17 := hRu.mono s17
    generalize upd H16 u (.lst [.non, .ref xr, .non]) = H17 at s5g sc17 hu17 hRu17 ⊢
    -- use
    have sa17 : Same (upd H9 h (.lst [.ref a1, .ref a2, .ref a3])) H17 := s11.trans (g15.trans sc17)
    have hh17 := sa17 _ _ (upd_same (H := H9) (a := h) (o := .lst [.ref a1, .ref a2, .ref a3]))
    have hK1' := ((hK1.mono s7).mono s8).mono (s9.trans (s10.trans sa17))
    have hK2' := (hK2.mono s8).mono (s9.trans (s10.trans sa17))
    have hK3' := hK3.mono (s10.trans sa17)
    have hKb' := hKb.mono (g15.trans sc17)
    obtain ⟨dx2, st2, sh2, i1, i2, i3⟩ := id hK2'
    refine ⟨_, rfl, h, _, 1, _, rfl, rfl, SqL.of hh17, rfl, a2, dx2, _, rfl, i1, kfs_no (by decide) (by decide) (by decide), ?_⟩
    refine ⟨_, rfl, u, _, 1, _, rfl, rfl, SqL.of hu17, rfl, ?_⟩
    refine ⟨a2, xr, wa, m1'.1, _, .non, yr, 2, wsk, rfl, hK2', hRu17, mn_SkA s5g hsk5, hperm, hsrt, hndn, hSk.few, fun m hm => ⟨hSk.key m hm, by have := (hSk.note m hm).1; omega⟩, fun H18 b18 hK2'' => ?_⟩
    -- the state
    have nh5 : H5 h = none := none_back ((s57.trans s8).trans s9) hh0
    have nt5 : H5 t = none := none_back (s5a.trans s11) nt11
    have nu5 : H5 u = none := none_back (s5e.trans s16) hu0
    have na25 : H5 a2 = none := none_back s6 na2
    have na35 : H5 a3 = none := none_back (s57.trans s8) na3
    have na2_ : H6 a2 = none := na2
    obtain ⟨dx1, st1, sh1, j1, j2, j3⟩ := id hK1
    have h12 : a1 ≠ a2 := fun z => by rw [z, na2] at j1; exact nomatch j1
    have j1' := s8 _ _ (s7 _ _ j1)
    have h13 : a1 ≠ a3 := fun z => by rw [z, na3] at j1'; exact nomatch j1'
    obtain ⟨dy2, su2, sv2, k21, _⟩ := id hK2
    have k21' := s8 _ _ k21
    have h23 : a2 ≠ a3 := fun z => by rw [z, na3] at k21'; exact nomatch k21'
    obtain ⟨dy3, su3, sv3, k31, _⟩ := id hK3
    have hx1 : a1 ≠ xb := ne_of_none (s10 _ _ (s9 _ _ j1')) nab
    have hx2 : a2 ≠ xb := ne_of_none (s10 _ _ (s9 _ _ k21')) nab
    have hx3 : a3 ≠ xb := ne_of_none (s10 _ _ k31) nab
    have h17b : ∀ {c o}, H17 c = some o → (∀ C dx fs, o ≠ .ins C dx fs) → H18 c = some o := fun hc n => b18 _ _ (fun z => by rw [z, i1] at hc; exact n _ _ _ (Option.some.inj hc).symm) hc
    have hh18 := h17b hh17 fun _ _ _ z => nomatch z
    have ht18 := h17b (sc17 _ _ hT5) fun _ _ _ z => nomatch z
    have hu18 := h17b hu17 fun _ _ _ z => nomatch z
    have hp1' := h17b (sc17 _ _ hP1) fun _ _ _ z => nomatch z
    have hp2' := h17b (sc17 _ _ hP2) fun _ _ _ z => nomatch z
    have hp3' := h17b (sc17 _ _ hP3) fun _ _ _ z => nomatch z
    have K1 := hK1'.butK i1 h12 b18
    have K3 := hK3'.butK i1 h23.symm b18
    have KB := hKb'.butK i1 (fun z => hx2 z.symm) b18
    obtain ⟨tr, hRt⟩ := hRu17.t
    have RT := hRt.butK i1 (kfs_st _ _ _) b18
    have s518 : Same H5 H18 := fun c o hc => b18 _ _ (fun z => by rw [z, na25] at hc; exact nomatch hc) (s5g _ _ hc)
    generalize hL : [h, t, u, a1, a2, a3] = L
    have mL : MuL L H18 := fun c hc => by
      obtain ⟨e1, _, _, g1, _⟩ := id K1
      obtain ⟨e2, _, _, g2, _⟩ := id hK2''
      obtain ⟨e3, _, _, g3, _⟩ := id K3
      rw [← hL] at hc
      simp only [List.mem_cons, List.not_mem_nil, or_false] at hc
      rcases hc with rfl | rfl | rfl | rfl | rfl | rfl
      · exact ⟨_, hh18, .inl ⟨_, rfl⟩⟩
      · exact ⟨_, ht18, .inl ⟨_, rfl⟩⟩
      · exact ⟨_, hu18, .inl ⟨_, rfl⟩⟩
      · exact ⟨_, g1, .inr ⟨_, _, _, rfl, kfs_st _ _ _⟩⟩
      · exact ⟨_, g2, .inr ⟨_, _, _, rfl, kfs_st _ _ _⟩⟩
      · exact ⟨_, g3, .inr ⟨_, _, _, rfl, kfs_st _ _ _⟩⟩
    have s5b : Same H5 (dels L H18) := same_dels s518 fun c hc => by
      rw [← hL] at hc
      simp only [List.mem_cons, List.not_mem_nil, or_false] at hc
      rcases hc with rfl | rfl | rfl | rfl | rfl | rfl <;> assumption
    have s818 : Same (dels [a1, a2] H8) (dels L H18) := fun c o hc => by
      have hc8 := dels_same _ _ hc
      have hn : c ∉ [a1, a2] := fun z => by rw [dels_in z] at hc; exact nomatch hc
      refine dels_at (fun z => ?_) (b18 _ _ (fun z => hn (by rw [z]; simp)) (sa17 _ _ (s10 _ _ (s9 _ _ hc8))))
      rw [← hL] at z
      simp only [List.mem_cons, List.not_mem_nil, or_false] at z
      rcases z with rfl | rfl | rfl | rfl | rfl | rfl
      · rw [none_back s9 hh0] at hc8; exact nomatch hc8
      · rw [none_back (s9.trans (s10.trans s11)) nt11] at hc8; exact nomatch hc8
      · rw [none_back (s9.trans (s10.trans (s11.trans (g15.trans (s13.trans (s14.trans (s15.trans s16))))))) hu0] at hc8; exact nomatch hc8
      · exact hn (by simp)
      · exact hn (by simp)
      · rw [na3] at hc8; exact nomatch hc8
    have hskB : SkA K (dels L H18) wa wsk := mn_SkA s5b hsk5
    have hsk2B : SkA K (dels L H18) wa2 sk2 := mn_SkA s818 (ska_dels (fun c hc => by
      simp only [List.mem_cons, List.not_mem_nil, or_false] at hc
      rcases hc with rfl | rfl
      · exact ⟨_, _, _, j1', kfs_st _ _ _⟩
      · exact ⟨_, _, _, k21', kfs_st _ _ _⟩) hsk2)
    have hxbL : xb ∉ L := fun z => by
      obtain ⟨db', _, _, g, _⟩ := id KB
      rw [← hL] at z
      simp only [List.mem_cons, List.not_mem_nil, or_false] at z
      rcases z with z | z | z | z | z | z
      · rw [z, hh18] at g; exact nomatch g
      · rw [z, ht18] at g; exact nomatch g
      · rw [z, hu18] at g; exact nomatch g
      · exact hx1 z.symm
      · exact hx2 z.symm
      · exact hx3 z.symm
    have KBb := KB.dels mL hxbL
    have RTb := RT.dels mL
    have inL : ∀ {c}, c ∈ L → dels L H18 c = none := fun hc => dels_in hc
    have T0k : TnOk K (dels L H18) H18 h t u m0.1 m0.2.2 md ks bigN (fun v => v = .non ∨ v = .ref xr) [⟨a1, wa, wsk, m1', [], .non⟩, ⟨a2, wa, wsk, m1', [], .ref xr⟩, ⟨a3, wa2, sk2, m2', [], .non⟩] := by
      have S1 : ∀ (a : Addr) (ru : V), KtS K (dels L H18) md m0.1 m0.2.2 ⟨a, wa, wsk, m1', [], ru⟩ := fun a ru => ⟨hskB, hSk.nd, hmem1, hSk.key _ hmem1, hsm1, hlen1, hof, e1.1, hsh1⟩
      have S2 : KtS K (dels L H18) md m0.1 m0.2.2 ⟨a3, wa2, sk2, m2', [], .non⟩ := ⟨hsk2B, hSk2.nd, hmem2, hSk2.key _ hmem2, hsm2, hlen2, hof2, e2.1, hsh2⟩
      have ks0 : shownR m0.2.2 [] = List.replicate m0.2.2.length 0 := shownR_nil _
      refine ⟨dels_same, inL (by rw [← hL]; simp), inL (by rw [← hL]; simp), inL (by rw [← hL]; simp), ⟨?_, ?_, ?_⟩, hh18, ⟨_, ht18, .cons ⟨p1, rfl, hp1'⟩ (.cons ⟨p2, rfl, hp2'⟩ (.cons ⟨p3, rfl, hp3'⟩ .nil))⟩, hu18, fun e he => ?_, fun e he => ?_, fun e he => ?_, ?_, fun e he => ?_, fun e he => ?_, rfl⟩
      · exact ne_of_none (s11 _ _ (upd_same (H := H9) (a := h) (o := .lst [.ref a1, .ref a2, .ref a3]))) nt11
      · exact ne_of_none (s16 _ _ (s15 _ _ (s14 _ _ (s13 _ _ (g15 _ _ (s11 _ _ (upd_same (H := H9) (a := h) (o := .lst [.ref a1, .ref a2, .ref a3])))))))) hu0
      · exact ne_of_none (s16 _ _ (s15 _ _ (s14 _ _ (s13 _ _ hT5)))) hu0
      · simp only [List.mem_cons, List.not_mem_nil, or_false] at he
        rcases he with rfl | rfl | rfl
        · show KpA K H18 a1 wa m1'.1 (shownR m0.2.2 []) .non
          rw [ks0, ← hlen1]; exact K1
        · show KpA K H18 a2 wa m1'.1 (shownR m0.2.2 []) (.ref xr)
          rw [ks0, ← hlen1]; exact hK2''
        · show KpA K H18 a3 wa2 m2'.1 (shownR m0.2.2 []) .non
          rw [ks0, ← hlen2]; exact K3
      · simp only [List.mem_cons, List.not_mem_nil, or_false] at he
        rcases he with rfl | rfl | rfl <;> exact inL (by rw [← hL]; simp)
      · simp only [List.mem_cons, List.not_mem_nil, or_false] at he
        rcases he with rfl | rfl | rfl
        · exact S1 _ _
        · exact S1 _ _
        · exact S2
      · show [a1, a2, a3].Nodup
        simp [h12, h13, h23]
      · simp only [List.mem_cons, List.not_mem_nil, or_false] at he
        rcases he with rfl | rfl | rfl <;> exact TabOk.nil
      · simp only [List.mem_cons, List.not_mem_nil, or_false] at he
        rcases he with rfl | rfl | rfl
        · exact .inl rfl
        · exact .inr rfl
        · exact .inl rfl
    have s0b : Same H (dels L H18) := s05.trans s5b
    have s4b : Same H4 (dels L H18) := s5.trans s5b
    have s2b : Same H2 (dels L H18) := (s3.trans s4).trans s4b
    generalize dels L H18 = Hb at T0k s0b s4b s2b s5b KBb RTb hskB
    have hrb : Hb r = some (RngO r) := s0b _ _ hbr
    have hkb : Hb ka = some (.lst (ks.map V.str)) := s2b _ _ hks
    have hntB : RowsR K Hb nt m0.2.2 := mn_Rows _ _ _ _ s5b hnt
    have bnd : ∀ i, i ≤ 10 → bigN * 2 ^ i < 2 ^ szT := fun i hi => Nat.lt_of_le_of_lt (Nat.mul_le_mul_left _ (Nat.pow_le_pow_right (by decide) hi)) (by decide +kernel)
    have AR : ∀ {Hx : Hp} {es : List KtE} (i : Nat), i ≤ 10 → TnOk K Hb Hx h t u m0.1 m0.2.2 md ks (bigN * 2 ^ i) (fun v => v = .non ∨ v = .ref xr) es → AreOk K Hx h t wa nt m0.1 m0.2.2 md es := fun i hi T => T.are hntB hgr0 hk3 (bnd i hi) hskB hof
    have T00 : TnOk K Hb H18 h t u m0.1 m0.2.2 md ks (bigN * 2 ^ 0) (fun v => v = .non ∨ v = .ref xr) _ := T0k
    refine ⟨_, rfl, _, rfl, _, rfl, _, rfl, _, rfl, rfl, h, t, wa, nt, m0.1, m0.2.2, md, _, rfl, AR 0 (by decide) T00, fun H19 s19 => ⟨true, rfl, iteF ?_⟩⟩
    have T19 := T00.same s19
    refine ⟨_, rfl, r, 10, rfl, by decide, by decide, T19.sub _ _ hrb, fun n H20 hn s20 => ?_⟩
    have T20 := T19.same s20
    refine ⟨_, _, rfl, rfl, _, rfl, by omega, by omega, ?_⟩
    have hti : (1 + (n : Int)).toNat ≤ 10 := by omega
    refine for_src (src_range (lo := 0) (n := (1 + (n : Int)).toNat)) (fun i σ Hx => ∃ es x12, σ = [some (.ref r), some (.ref ka), some (.ref am), some (.ref wa), some (.int at_), some (.str m0.1), some nt, some (.ref h), some (.ref xb), some (.ref t), some (.ref u), none, x12, none] ∧ TnOk K Hb Hx h t u m0.1 m0.2.2 md ks (bigN * 2 ^ i) (fun v => v = .non ∨ v = .ref xr) es)
      ⟨_, _, rfl, T20⟩ (fun _ _ _ _ => trivial) ?_ ?_
    · rintro i b x σ Hx Hy hb hi ⟨es, x12, rfl, Tx⟩ sxy rfl
      rw [iota_length] at hi
      have Ty := Tx.same sxy
      refine ⟨_, rfl, _, rfl, _, rfl, _, rfl, _, rfl, Hb, r, h, t, ka, u, m0.1, m0.2.2, md, ks, bigN * 2 ^ i, _, es, rfl, hrb, hkb, hndk, hk3, hkk, ?_, bnd i (by omega), by have := hgr0.1; omega, Ty, fun Hz es' Tz => ?_⟩
      · exact Nat.le_mul_of_pos_right _ (Nat.two_pow_pos _)
      have Tz' : TnOk K Hb Hz h t u m0.1 m0.2.2 md ks (bigN * 2 ^ (i + 1)) (fun v => v = .non ∨ v = .ref xr) es' := by
        have e : 2 * (bigN * 2 ^ i) = bigN * 2 ^ (i + 1) := by rw [Nat.pow_succ, Nat.mul_comm 2, Nat.mul_assoc]
        rw [e] at Tz; exact Tz
      refine ⟨true, rfl, iteF ?_⟩
      refine ⟨_, rfl, _, rfl, _, rfl, _, rfl, _, rfl, rfl, h, t, wa, nt, m0.1, m0.2.2, md, es', rfl, AR (i + 1) (by omega) Tz', fun Hw sw => ⟨true, rfl, iteF ?_⟩⟩
      have Tw := Tz'.same sw
      have ARw := AR (i + 1) (by omega) Tw
      refine ⟨_, rfl, h, rfl, ⟨_, SqL.of Tw.hh⟩, fun D2 hD2 => ?_⟩
      refine lc_src (src_list mn_Kt (each_kt ARw.ok)) (fun _ v x => v = x) (fun e => e.ru) (fun _ => true) ⟨Same.refl _, SqL.of Tw.hh⟩ hD2 (small1000 (by rw [Tw.len]; decide)) ?_ ?_
      · intro i2 b2 x2 Hv acc Nx hb2 sv _ ⟨ex, hx⟩ hDv hlv _ _ kT
        subst ex
        obtain ⟨dx, st, sh, g1, g2, g3⟩ := id hx.kp.kp
        refine ⟨rfl, tYes_of ?_⟩
        exact ⟨_, rfl, b2.a, dx, _, rfl, g1, b2.a, b2.s, _, _, _, rfl, hx.kp.kp, acc, hDv, hlv, kT rfl _ _ (Same.refl _) fun _ _ => rfl⟩
      intro Hv ysv sv hyv hev
      have eyv := (hev Hv fun _ _ _ z => z).eq_map (fun x : V => x) (fun _ _ z => z)
      rw [filt, List.map_id'] at eyv
      have Tv := Tw.same sv
      have hRv : RuT K Hv xr tr yr 2 := RTb.mono Tv.sub
      have hyl : yr.length ≤ 64 := by rw [hperm.length_eq, List.length_map]; have := hSk.few; omega
      have hyk : ∀ s ∈ yr, keyS s = true := fun s hs => by
        obtain ⟨m, hm, rfl⟩ := List.mem_map.mp ((hperm.mem_iff).mp hs)
        exact hSk.key m hm
      have hrx : ∀ v ∈ es'.map (fun e => e.ru), v = .non ∨ v = .ref xr := fun v hv => by
        obtain ⟨e', he', rfl⟩ := List.mem_map.mp hv
        exact Tv.pr e' he'
      have hrl : (es'.map fun e => e.ru).length ≤ 10 := by rw [List.length_map, Tv.len]; decide
      rw [eyv] at hyv
      refine ⟨.ref D2, _, rfl, showL_rules e hyv hRv hrx hrl hyl hyk txok2, fun Hv2 sv2 => ?_⟩
      have Tv2 := Tv.same sv2
      refine ⟨_, rfl, .ref u, _, rfl, showL_rules e Tv2.hu (hRv.mono sv2) hrx hrl hyl hyk txok2, fun Hv3 sv3 => ?_⟩
      refine ⟨rfl, _, rfl, ?_⟩
      refine iteN ?_
      exact ⟨es', _, rfl, Tv2.same sv3⟩
    · rintro σ Hx ⟨es, x12, rfl, Tx⟩
      have hnames : (md.map (·.1)).Nodup := by rw [hgm.1]; exact (nms_ok md.length hm4).1
      have hkb' : keyS mb.1 = true := by rw [← eb.1]; exact hSk.key _ hmemb
      have hmdx : ∀ {Hy}, Same Hb Hy → MdsR K Hy (.ref am) md := fun s => mn_Mds _ _ _ _ (s5b.trans s) hmd5
      refine ⟨_, rfl, am, ws, rfl, .inl ((s5b.trans Tx.sub).seq hws5), _, _, rfl, rfl, _, rfl, ?_⟩
      by_cases hmany : 1 < ws.length
      · rw [decide_eq_true (show (1 : Int) < ((ws.length : Nat) : Int) by omega)]
        refine iteT ?_
        have hne : m0.1 ≠ mb.1 := fun z => hbne hmany (nodup_inj hnames (by rw [List.length_map, ← hew.length]; exact hbi) (by rw [List.length_map]; exact hat) (by
          rw [List.getElem_map, List.getElem_map]
          have e1 := List.getElem?_eq_getElem (show at_ < md.length from hat)
          have e2 := List.getElem?_eq_getElem (show bi < md.length by rw [← hew.length]; exact hbi)
          rw [hm0] at e1
          rw [hmb] at e2
          rw [← Option.some.inj e1, ← Option.some.inj e2, z]))
        have hhx := Tx.hh
        refine ⟨_, rfl, h, rfl, ⟨_, SqL.of hhx⟩, fun D2 hD2 => ?_⟩
        refine lc_src (src_list mn_Kt (each_kt (AR _ hti (by rw [iota_length] at Tx; exact Tx)).ok)) (fun _ v x => v = V.bl x) (fun _ => false) (fun _ => true) ⟨Same.refl _, SqL.of hhx⟩ hD2 (small1000 (by rw [Tx.len]; decide)) ?_ ?_
        · intro i2 b2 x2 Hv acc Nx hb2 sv _ ⟨ex, hx⟩ hDv hlv _ _ kT
          subst ex
          have sbv := Tx.sub.trans sv
          have KBv := KBb.mono sbv
          have hskv := mn_SkA sbv hskB
          obtain ⟨dx, st, sh, g1, g2, g3⟩ := id hx.kp.kp
          obtain ⟨dxb, stb, shb, g1b, g2b, g3b⟩ := id KBv
          have eF : ∀ ns, KpEqB b2.m.1 mb.1 (shownR m0.2.2 b2.t) ns = false := fun ns => by
            unfold KpEqB
            rw [hx.nm, decide_eq_false hne, Bool.false_and]
          refine ⟨rfl, tYes_of ?_⟩
          refine ⟨_, rfl, _, rfl, b2.a, xb, dx, dxb, _, _, rfl, rfl, g1, g1b, b2.a, xb, b2.s, wa, _, _, _, _, _, _, rfl, hx.kp.kp, KBv, ⟨_, _, hx.kp.hsk, hskv, skof_alike hx.of_ hof⟩, hx.kp.key, hkb', fun Hc sc => ⟨false, by rw [eF], ?_⟩⟩
          refine ⟨false, rfl, iteF ?_⟩
          have hxc := hx.mono sc
          have KBc := KBv.mono sc
          refine ⟨_, rfl, _, rfl, b2.a, xb, dx, dxb, _, _, rfl, rfl, sc _ _ g1, sc _ _ g1b, b2.a, xb, b2.s, wa, _, _, _, _, _, _, rfl, hxc.kp.kp, KBc, ⟨_, _, hxc.kp.hsk, mn_SkA sc hskv, skof_alike hxc.of_ hof⟩, hxc.kp.key, hkb', fun Hd sd => ⟨false, by rw [eF], ?_⟩⟩
          refine ⟨true, rfl, acc, (sc.trans sd) _ _ hDv, hlv, kT rfl _ _ (sc.trans sd) fun _ _ => rfl⟩
        intro Hv ysv sv hyv hev
        have eyv := (hev Hv fun _ _ _ z => z).eq_map V.bl (fun _ _ z => z)
        rw [filt] at eyv
        refine ⟨D2, _, rfl, SqL.of (by rw [hyv, eyv]), ?_⟩
        have eAny : (es.map fun _ => false).any id = false := by
          rw [List.any_eq_false]
          intro x hx
          obtain ⟨_, _, rfl⟩ := List.mem_map.mp hx
          simp
        rw [eAny]
        refine ⟨false, rfl, iteF ?_⟩
        have sF := Tx.sub.trans sv
        obtain ⟨dxb, stb, shb, g1, g2, g3⟩ := id (KBb.mono sF)
        obtain ⟨vb', hvb', Tb', ntb', rfl, hTb', hntb'⟩ := at_each (hew5.mono mn_Md (s5b.trans sF)) hmb
        obtain ⟨na, nvs, rfl, hnv, hne'⟩ := hntb'
        have hsm0 : SmallI (List.replicate mb.2.2.length 0) := ⟨by rw [List.length_replicate]; omega, fun z hz => by rw [List.eq_of_mem_replicate hz]; decide⟩
        refine ⟨_, rfl, xb, dxb, _, rfl, g1, xb, wa, mb.1, _, .non, rfl, KBb.mono sF, fun T hT => ?_⟩
        refine ⟨T, _, rfl, hT, hsm0, (by show 1 ≤ sizeLine; decide), fun p hp => ?_⟩
        have sp1 := same_upd (o := .tup [.int 0]) hp
        have sF1 := sF.trans sp1
        refine ⟨_, rfl, _, rfl, _, _, rfl, rfl, am, ws, _, _, rfl, rfl, (s5b.trans sF1).seq hws5, (by rw [hatb]; exact hvb'), Tb', _, 2, _, rfl, rfl, SqT.of (sp1 _ _ hTb'), rfl, ?_⟩
        refine ⟨na, nvs, rfl, .inl (sp1.seq hnv), p, mb.2.2.length, [.int 0], rfl, (by rw [hne'.length]), upd_same, by simp, by omega, by simp, fun T2 H2' s2' hT2 => ?_⟩
        refine ⟨T2, List.replicate mb.2.2.length 0, rfl, (by rw [hT2, rep_ints]), hsm0, ?_⟩
        refine ⟨rfl, _, rfl, iteE ?_⟩
        have sF2 := sF1.trans s2'
        refine ⟨_, rfl, _, rfl, .ref am, md, ks, rfl, hmdx sF2, hgm, hm1, hm4, hk3, hkk, fun vu3 sk3 H3' s3' hsk3 hof3 => ?_⟩
        obtain ⟨wu, rfl, hsk3⟩ := hsk3
        have sF3 := sF2.trans s3'
        have hskF := mn_SkA sF3 hskB
        obtain ⟨dz, dd1, kk1, hz1, _⟩ := id hskF
        obtain ⟨dz2, dd2, kk2, hz2, _⟩ := id hsk3
        refine ⟨wa, wu, dz, dz2, _, _, rfl, rfl, hz1, hz2, wa, wu, rfl, ⟨_, _, hskF, hsk3, skof_alike hof hof3⟩, fun H4' s4' => ⟨true, rfl, ?_⟩⟩
        exact q _ (s0b.trans (sF3.trans s4'))
      · rw [decide_eq_false (show ¬ (1 : Int) < ((ws.length : Nat) : Int) by omega)]
        refine iteF ?_
        refine iteF ?_
        have sF := Tx.sub
        obtain ⟨dxb, stb, shb, g1, g2, g3⟩ := id (KBb.mono sF)
        obtain ⟨vb', hvb', Tb', ntb', rfl, hTb', hntb'⟩ := at_each (hew5.mono mn_Md (s5b.trans sF)) hmb
        obtain ⟨na, nvs, rfl, hnv, hne'⟩ := hntb'
        have hsm0 : SmallI (List.replicate mb.2.2.length 0) := ⟨by rw [List.length_replicate]; omega, fun z hz => by rw [List.eq_of_mem_replicate hz]; decide⟩
        refine ⟨_, rfl, xb, dxb, _, rfl, g1, xb, wa, mb.1, _, .non, rfl, KBb.mono sF, fun T hT => ?_⟩
        refine ⟨T, _, rfl, hT, hsm0, (by show 1 ≤ sizeLine; decide), fun p hp => ?_⟩
        have sp1 := same_upd (o := .tup [.int 0]) hp
        have sF1 := sF.trans sp1
        refine ⟨_, rfl, _, rfl, _, _, rfl, rfl, am, ws, _, _, rfl, rfl, (s5b.trans sF1).seq hws5, (by rw [hatb]; exact hvb'), Tb', _, 2, _, rfl, rfl, SqT.of (sp1 _ _ hTb'), rfl, ?_⟩
        refine ⟨na, nvs, rfl, .inl (sp1.seq hnv), p, mb.2.2.length, [.int 0], rfl, (by rw [hne'.length]), upd_same, by simp, by omega, by simp, fun T2 H2' s2' hT2 => ?_⟩
        refine ⟨T2, List.replicate mb.2.2.length 0, rfl, (by rw [hT2, rep_ints]), hsm0, ?_⟩
        refine ⟨rfl, _, rfl, iteE ?_⟩
        have sF2 := sF1.trans s2'
        refine ⟨_, rfl, _, rfl, .ref am, md, ks, rfl, hmdx sF2, hgm, hm1, hm4, hk3, hkk, fun vu3 sk3 H3' s3' hsk3 hof3 => ?_⟩
        obtain ⟨wu, rfl, hsk3⟩ := hsk3
        have sF3 := sF2.trans s3'
        have hskF := mn_SkA sF3 hskB
        obtain ⟨dz, dd1, kk1, hz1, _⟩ := id hskF
        obtain ⟨dz2, dd2, kk2, hz2, _⟩ := id hsk3
        refine ⟨wa, wu, dz, dz2, _, _, rfl, rfl, hz1, hz2, wa, wu, rfl, ⟨_, _, hskF, hsk3, skof_alike hof hof3⟩, fun H4' s4' => ⟨true, rfl, ?_⟩⟩
        exact q _ (s0b.trans (sF3.trans s4'))
end NG

set_option Elab.async false
set_option linter.all false
set_option maxRecDepth 100000
set_option maxHeartbeats 800000
/-! law; its call -/
namespace NG
open PySem PySem.Spec PyProof.Rows L2 He
variable {P : Program} {w : World} {K : Fg} {mg : Str → Option Value} {base : Heap}
abbrev nLaw : List Str := ["script", "k"]
theorem sc_law : FnScope nLaw ["script"] (defScope f_law) := ⟨rfl, rfl, rfl, by decide +kernel, rfl, by decide +kernel, by decide +kernel⟩
def spLaw (K : Fg) : SpG := fun g vs H Q _ => g = [] ∧ ∃ (a : Addr) (ns : List Int), vs = [.ref a] ∧ SqL K H a (ns.map V.int) ∧ ns.length ≤ 63 ∧ ∀ H', Q (.bl true) H'
theorem ok_law (e : Ev K mg) {fd : FuncData} (F : FunD K "law" "law" (defArgs f_law) (defBody f_law) (defScope f_law) [] [] (fAd K ("law", none)) fd) : FnG P w K mg base CX0 11 (fAd K ("law", none)) fd ["script"] (spLaw K) := by
  obtain ⟨f1', d1, m1, G1, k1, b1⟩ := has_rng (P := P) (w := w) (base := base) e
  obtain ⟨f2', d2, m2, G2, k2, b2⟩ := has_right (P := P) (w := w) (base := base) e
  refine F.okGD sc_law (fun g vs H Q E h => ?_) (fun cdv A outer s H vs Q E g hg hr h => ?_)
  · obtain ⟨_, a, ns, rfl, _⟩ := h; rfl
  · obtain ⟨rfl, a, ns, rfl, hS, hl, q⟩ := h
    have hgs := (deeper_guards A (envOfC "law" (defScope f_law) s.heap.objs.size (fAd K ("law", none)) cdv)).trans hg
    have hr2 := hr.mono (show 2 ≤ 10 by decide)
    refine ⟨_, pss_one (ps_ret (pe_callB (cr_all rfl) rfl e.b_all (by decide +kernel) (pa_cons (pe_lc (own := [("k", 1)]) (g := gName 1) (tt := tYes) rfl sc_law.nd (pi_range1 rfl e.b_range (pa_cons (pe_callB (call_max2 rfl) rfl e.b_max boot_max (pa_cons pe_int (pa_cons (pe_callB (call_min2 rfl) rfl e.b_min (by decide +kernel) (pa_cons pe_int (pa_cons (pe_callB call_len_seq rfl e.b_len boot_len (pa_cons (pv 0) pa_nil)) pa_nil))) pa_nil))) pa_nil))
        (blkOk_by (N := nLaw) (sc := defScope f_law) (by decide +kernel)) (fun _ _ _ _ _ => pg_name (i := 1) sc_law.nd rfl (Or.inl rfl)) (fun _ _ _ _ _ => pts_nil)
        (fun _ _ _ _ _ => pe_callG G2 hgs hr rfl m2 k2 b2 .nil pass0 (pa_cons (pe_call G1 hr2 rfl m1 k1 b1 .nil pass0 (pa_cons (pv 0) (pa_cons (pv 1) pa_nil))) pa_nil))) pa_nil))), ?_⟩
    refine ⟨_, rfl, a, _, rfl, .inl hS, _, _, rfl, _, _, rfl, ?_⟩
    have hm : ∀ n : Nat, ∃ m : Nat, (if (if ((n : Nat) : Int) < 4 then ((n : Nat) : Int) else 4) > 1 then (if ((n : Nat) : Int) < 4 then ((n : Nat) : Int) else 4) else 1) = ((m : Nat) : Int) ∧ m ≤ 4 := fun n => by
      by_cases h1 : ((n : Nat) : Int) < 4
      · rw [if_pos h1]
        by_cases h2 : ((n : Nat) : Int) > 1
        · rw [if_pos h2]; exact ⟨n, rfl, by omega⟩
        · rw [if_neg h2]; exact ⟨1, rfl, by omega⟩
      · rw [if_neg h1, if_pos (by decide)]; exact ⟨4, rfl, by omega⟩
    obtain ⟨m, em, hm4⟩ := hm (ns.map V.int).length
    rw [em]
    refine ⟨_, rfl, by omega, by omega, fun D hD => ?_⟩
    have etn : ((m : Nat) : Int).toNat = m := by omega
    rw [etn]
    refine lc_src (src_range (lo := 0) (n := m)) (fun _ v b => v = V.bl b) (fun _ => true) (fun _ => true) trivial hD (small1000 (by rw [iota_length]; omega)) ?_ ?_
    · intro i b x H2 acc Nx hb s2 _ hx hD2 hl2 _ _ kT
      have hi : i < m := by
        have := (List.getElem?_eq_some_iff.mp hb).1
        rw [iota_length] at this
        exact this
      have hbi : b = (i : Int) := by
        have := hb
        simp [iota, hi] at this
        omega
      subst hbi
      obtain rfl : x = .int (i : Int) := hx
      refine ⟨rfl, tYes_of ?_⟩
      refine ⟨_, rfl, _, rfl, a, ns, i, rfl, s2.seq hS, hl, by omega, fun r H3 s3 hr3 => ?_⟩
      refine ⟨rfl, r, rfl, hr3, fun H4 s4 => ?_⟩
      exact ⟨acc, (s3.trans s4) _ _ hD2, hl2, kT rfl _ _ (s3.trans s4) fun _ _ => rfl⟩
    · intro H2 ys s2 hy he
      have ey := (he H2 fun _ _ _ z => z).eq_map V.bl (fun _ _ z => z)
      rw [filt] at ey
      refine ⟨D, _, rfl, SqL.of (by rw [hy, ey]), ?_⟩
      have eAll : ((iota 0 m).map fun _ => true).all id = true := by
        rw [List.all_eq_true]
        intro x hx
        obtain ⟨_, _, rfl⟩ := List.mem_map.mp hx
        rfl
      rw [eAll]
      exact q _
/-! ### the call of the law -/
theorem law_callG {P : Program} {w : World} {K : Fg} {mg mb : Str → Option Value} {k : Nat} {fa a : Addr} {fd : FuncData} {x : Str} {sp : SpG} {s₁ : Shared} {vs : List Value} {ns : List Int}
    (KX : K.In s₁.heap) (hns : s₁.heap.Ns mainGlobals mg) (hb : s₁.heap.Ns builtinsNs mb) (hbb : ∀ x : Str, x ≠ "__name__" → mb x = bootBuiltins x) (hlim : s₁.heap.NoLimit) (hg : s₁.gens = #[])
    (ha : s₁.heap.get? a = some { cls := .type "list", data := .seq vs.toArray }) (hi : IntsAre vs ns) (hl : ns.length ≤ sizeLine) (hr : Room k callerA)
    (F : ∀ base : Heap, K.In base → base.Ns mainGlobals mg → FnG P w K mg base CX0 k fa fd [x] sp) (hbind : ∀ (s : Shared) (u : Value), BindsTo s fd ⟨[u], []⟩ [(x, u)])
    (hsp : ∀ H : Hp, SqL K H a (ns.map V.int) → sp [] [.ref a] H (fun v _ => v = .bl true) fun _ _ _ => False) :
    codeAny (model P w) callerA (.call (.ref fa) ⟨[.ref a], []⟩) (fun r s' => r = .ok (.ret (.bool true)) ∧ OldK s₁.heap s'.heap ∧ s'.os = s₁.os ∧ AllBare s'.gens) s₁ := by
  have rv := vals_ints hi
  -- the tracked part: at most the script, as it is
  have main : ∀ H : Hp, (∀ b o, H b = some o → b = a ∧ K.lookup a = none ∧ o = .frz { cls := .type "list", data := .seq vs.toArray } (.lst (ns.map V.int))) → SqL K H a (ns.map V.int) →
      codeAny (model P w) callerA (.call (.ref fa) ⟨[.ref a], []⟩) (fun r s' => r = .ok (.ret (.bool true)) ∧ OldK s₁.heap s'.heap ∧ s'.os = s₁.os ∧ AllBare s'.gens) s₁ := by
    intro H only hS
    have hok : HOk P w H s₁.heap := fun b o e => by
      obtain ⟨rfl, _, rfl⟩ := only b o e
      exact ⟨ha, by rw [List.length_map]; exact hl, vs, _, rv, ha⟩
    have keep : ∀ {b : Addr} {o : Obj}, s₁.heap.get? b = some o → (b = a → K.lookup a = none → False) → (hidT s₁.heap H).get? b = some o := fun {b o} e n => hidT_get e (by
      cases q : H b with
      | none => rfl
      | some u => exact (n (only b u q).1 (only b u q).2.1).elim)
    have ns_ : ∀ {b : Addr} {m : Str → Option Value}, s₁.heap.Ns b m → (hidT s₁.heap H).Ns b m := fun {b m} ⟨o, es, ep, e, d, r⟩ => ⟨o, es, ep, keep e (fun z _ => by
      subst z
      rw [ha] at e
      cases e
      exact nomatch (show Data.seq vs.toArray _ = Data.dict es ep from d)), d, r⟩
    have kin : K.In (hidT s₁.heap H) := fun b o e => keep (KX b o e) fun z n => by
      rw [z, n] at e
      exact nomatch e
    have hM : Mod K mg (hidT s₁.heap H) := ⟨kin, ns_ hns, ⟨mb, ns_ hb, hbb⟩, let ⟨mc, h1, h2⟩ := hlim; ⟨mc, ns_ h1, h2⟩⟩
    refine codeAny_mono ((F _ kin (ns_ hns)).run callerA [] s₁ H ⟨[.ref a], []⟩ [.ref a] [.ref a] _ _ [] rfl hr
      ⟨rfl, hM, fun b o e => of_hidT e, Nat.le_of_eq (hidT_size _ _), trivial, fun b hb => (List.not_mem_nil hb).elim, hok, .of_eq hg⟩ (hbind s₁ (.ref a)) (.cons rfl .nil) (hsp H hS)) fun r s' h => ?_
    match r, h with
    | .ok (.ret u), h =>
      obtain ⟨v, H', os, bare, un, hok', r', rfl⟩ := h
      obtain rfl : u = Value.bool true := r'
      refine ⟨rfl, OldK.of_keep fun b o e => ?_, os, bare⟩
      cases q : H b with
      | none => exact un.keep b o e q (fun z => (List.not_mem_nil z).elim) (by simp)
      | some u =>
        obtain ⟨rfl, _, rfl⟩ := only b u q
        have e2 := (hok' b _ (un.frzs b _ _ q)).1
        rw [ha] at e
        cases e
        exact e2
  cases hk : K.lookup a with
  | some o =>
    have e := KX a o hk
    rw [ha] at e
    cases e
    exact main (fun _ => none) (fun b o z => nomatch z) (.inr ⟨_, vs.toArray, _, hk, rfl, rfl, rfl, by rw [List.size_toArray, hi.length]; exact hl, by simpa using rv⟩)
  | none =>
    refine main (fun b => if b = a then some (.frz { cls := .type "list", data := .seq vs.toArray } (.lst (ns.map V.int))) else none) (fun b o z => ?_) (.inl (.inr ⟨{ cls := .type "list", data := .seq vs.toArray }, if_pos rfl⟩))
    by_cases hb : b = a
    · rw [if_pos hb] at z
      exact ⟨hb, hk, (Option.some.inj z).symm⟩
    · rw [if_neg hb] at z
      exact nomatch z
theorem walk_ofG {l : PySem.W.OpenLaw} {n k : Nat} {q : Program} {loose : List Str} {XP : (Str → Option Value) → Heap → Prop} {YP : World → Heap → Prop} {d : DefRec} {x : Str}
    (hn : l.most = some n) (hn2 : n ≤ sizeLine) (hdf : d.params.defaults = []) (hr : Room k callerA)
    (F : ∀ (w : World) (mg : Str → Option Value) (fa : Addr) (h : Heap), YP w h → h.Ns mainGlobals mg → mg d.name = some (.ref fa) →
      ∃ (K : Fg) (fd : FuncData) (sp : SpG), K.In h ∧ (∀ (s : Shared) (u : Value), BindsTo s fd ⟨[u], []⟩ [(x, u)]) ∧
        (∀ (H : Hp) (a : Addr) (ns : List Int), ns.length ≤ n → SqL K H a (ns.map V.int) → sp [] [.ref a] H (fun v _ => v = .bl true) fun _ _ _ => False) ∧
        ∀ base : Heap, K.In base → base.Ns mainGlobals mg → FnG l.prog w K mg base CX0 k fa fd [x] sp) :
    PySem.W.WalkO q loose XP YP l.row.toRowW d [] (fun f vs => PySem.call f vs) := by
  refine Att.attach_call hn hdf fun w s₀ s₁ mg mb fa o pm cd doc a vs ns G Y _ _ _ hmg hobj hints hlen hg => ?_
  obtain ⟨K, fd, sp, KX, hb, hsp, hF⟩ := F w mg fa _ Y G.T.g hmg
  exact law_callG KX G.T.g G.T.b G.T.builtins G.T.nolimit hg hobj hints (Nat.le_trans hlen hn2) hr hF hb fun H hS => hsp H a ns hlen hS
end NG

set_option Elab.async false
set_option linter.all false
set_option maxRecDepth 100000
set_option maxHeartbeats 0
/-! the row -/
open PySem PySem.W PySem.Calls PyProof.Rows
namespace NG
theorem law_walk : WalkO qv looseN (XL qv []) hkN.says RR.toRowW dLaw [] fun f vs => PySem.call f vs := by
  refine NG.walk_ofG (l := PySem.Challenge.rw_neargaps_k80_whole_kept_notes_by_tables) (n := 63) (k := 11) (x := "script") rfl (by decide) hd10 ⟨rfl, by decide, by decide⟩ ?F
  intro w mg fa h Y G hmg0
  obtain ⟨K, KX, c⟩ := Y
  have hmg : mg ("law" : PySem.Str) = some (.ref fa) := by
    rw [← hd9]
    exact hmg0
  have ev : NG.Ev K mg := ⟨⟨h, c⟩, ⟨h, KX, G⟩⟩
  obtain ⟨fd, FL⟩ := ev.F_f_law
  have b := L2.FunD.bindsA (ps := ["script"]) FL fun _ _ _ _ _ _ us hl => match us, hl with | [_], _ => rfl
  have efa : fa = He.ga K "law" := by
    have := hmg.symm.trans ev.g_law
    cases this
    rfl
  subst efa
  exact ⟨K, fd, NG.spLaw K, KX, fun s v => b s [v] rfl, fun H a ns hl hS => ⟨rfl, a, ns, rfl, hS, hl, fun _ => rfl⟩, fun base hK hG => NG.ok_law ⟨⟨h, c⟩, ⟨base, hK, hG⟩⟩ FL⟩
end NG
theorem PySem.Challenge.cw_neargaps_k80_whole_kept_notes_by_tables_holds : PySem.Challenge.rw_neargaps_k80_whole_kept_notes_by_tables.Holds := by
  exact NG.hd_row (NG.hd_holds NG.law_walk)
