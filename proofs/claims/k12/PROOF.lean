import PyProof.Rows.All
import Wide.All
import OpenK.AllK
import Wide.FinOn
import HandS.ForMost
import HandS.More
import KE.KStateDown
import HandS.Base
import HandS.Call
import HandS.Ends
import HandS.Words
import HandS.WordsExc
import HandS.Defaults
import HandS.Head0
import HandS.Head1
import HandS.Head2
import HandS.HeadEnd
import HandS.HeadHook1
import HandS.HeadHook2
import HandS.HeadHook3
import HandS.HeadHook4
import HandS.ExcInit
import HandS.ExcIs
import HandS.ExcField
import PySem.Challenge.RW_provedorshown_k12_single_lines
import HandS.IsInst
import HandS.Codes
import HandS.TupMul
import HandS.ExcCtx
import HandS.Hot
import HandS.HotCalls
import HandS.SetFor
import HandS.Deep
import HandS.Style
import HandS.SortInts
import HandS.Strs
import HandS.TupSets
import HandS.Sort
import HandS.Text
import HandS.TupLe
import HandS.DictComp
import HandS.DeepEq
import HandS.TupAny
import PyProof.Draws
import KE.GoesZip
import KE.GoesMore
import HandS.Zip
import PyProof.Rows.TupDisplay
import HandS.Conv
set_option Elab.async false
set_option linter.all false
set_option maxRecDepth 100000
set_option maxHeartbeats 1000000
namespace LL
open PySem PySem.Spec PyProof.Rows L2
/-! ### tables of the top: text keys to ints or texts -/
def lookT {α : Type} : List (Str × α) → Str → Option α
  | [], _ => none
  | p :: l, z => if p.1 = z then some p.2 else lookT l z
structure KTabI (K : PySem.W.Frag) (mg : Str → Option Value) (w : World) (x : Str) (l : List (Str × Int)) : Prop where
  ex : ∃ (a : Addr) (es : Array DictEntry) (n : Nat), mg x = some (.ref a) ∧ KDict K w a es n ∧ ∀ z : Str, match lookT l z with | some i => ∃ t, PySem.W.nsIn K a z = some (some (.int i t)) | none => PySem.W.nsIn K a z = some none
structure KTabS (K : PySem.W.Frag) (mg : Str → Option Value) (w : World) (x : Str) (l : List (Str × Str)) : Prop where
  ex : ∃ (a : Addr) (es : Array DictEntry) (n : Nat), mg x = some (.ref a) ∧ KDict K w a es n ∧ ∀ z : Str, match lookT l z with | some i => ∃ t, PySem.W.nsIn K a z = some (some (.str i t)) | none => PySem.W.nsIn K a z = some none
/-- the tables of the rules -/
def cntL : List (Str × Int) := [("axiom", 0), ("no", 0), ("given", 1), ("and left", 1), ("or left", 2), ("if left", 2), ("box left", 1), ("and right", 2), ("or right", 1), ("if right", 1), ("box", 1), ("cut", 2)]
def lftL : List (Str × Str) := [("and left", "and"), ("or left", "or"), ("if left", "if"), ("box left", "box")]
def rgtL : List (Str × Str) := [("and right", "and"), ("or right", "or"), ("if right", "if"), ("box", "box")]
end LL

set_option Elab.async false
set_option linter.all false
set_option maxRecDepth 100000
set_option maxHeartbeats 2000000
/-! the head by the kernel's run: what the top has written, read off as truths of K -/
namespace LH
open PySem PySem.Spec PyProof.Rows L2 LL He
section
variable {P : Program} {K : PySem.W.Frag} {mg : Str → Option Value} {w : World} {h : Heap}
theorem fun_of {x qual : Str} {st : Stmt} {f : Addr} {fd : FuncData} (F : FunD K x qual (defArgs st) (defBody st) (defScope st) [] [] f fd) : Fun K x qual st f fd := by
  obtain ⟨oc, od, dV, kV, doc, pm, an, cdv, ct, osl, rfl, lk, hcd, hD, hK⟩ := F.ex
  rcases hD with ⟨_, rfl⟩ | ⟨e, _⟩
  · exact ⟨⟨oc, od, kV, doc, pm, an, cdv, ct, osl, rfl, lk, hcd⟩, F.kp⟩
  · exact absurd rfl e
/-- a def of the text, as it is looked for -/
def dd (x : Str) (st : Stmt) : DefD := ⟨(x, none), x, x, defArgs st, defBody st, defScope st, [], []⟩
/-- a method -/
def dm (C m : Str) (q : Str) (st : Stmt) : DefD := ⟨(C, some m), m, q, defArgs st, defBody st, defScope st, [], []⟩
theorem int_of (X : K.In h) (G : h.Ns mainGlobals mg) {fa : List Fa} {fn : List DefD} (c : SaysD fa fn K) (i : Nat) {x : Str} {n : Int} (hi : fa[i]? = some (.int x n)) : ∃ t, mg x = some (.int n t) := int_ok X G (c.fact i hi)
/-! ### truths of one's own -/
def allB (l : List (PySem.W.Frag → Bool)) (K : PySem.W.Frag) : Bool := l.all fun b => b K
theorem allB_at {l : List (PySem.W.Frag → Bool)} (e : allB l K = true) (i : Nat) {b : PySem.W.Frag → Bool} (hb : l[i]? = some b) : b K = true := List.all_eq_true.mp e b (List.mem_of_getElem? hb)
/-- a tuple of strings that stands at a name -/
def tupS (x : Str) (xs : List Str) (K : PySem.W.Frag) : Bool := tupB K x (xs.map Dv.str)
theorem tupS_ok {x : Str} {xs : List Str} (e : tupS x xs K = true) (H : Hp) : SqT K H (ga K x) (xs.map V.str) := by
  have q := tupB_ok e H
  rw [List.map_map] at q
  exact q
/-- a dict of strings and ints that stands at a name -/
def relI : List (Str × Int) → List DictEntry → Bool
  | [], [] => true
  | p :: l, e :: r => (match e.key with | .str y _ => decide (y = p.1) | _ => false) && ((match e.val with | .int j _ => decide (j = p.2) | _ => false) && relI l r)
  | _, _ => false
def itemsB (x : Str) (l : List (Str × Int)) (K : PySem.W.Frag) : Bool := match K.lookup (ga K x) with
  | some ⟨_, _, .dict es _, _⟩ => relI l es.toList
  | _ => false
def look : List (Str × Int) → Str → Option Int
  | [], _ => none
  | p :: l, z => if p.1 = z then some p.2 else look l z
theorem rel_find {z : Str} : ∀ {l : List (Str × Int)} {r : List DictEntry}, relI l r = true → (match look l z with | some i => ∃ e t, r.find? (·.key.isStr z) = some e ∧ e.val = .int i t | none => r.find? (·.key.isStr z) = none) ∧ r.any (·.refKey) = false
  | [], [], _ => ⟨rfl, rfl⟩
  | [], _ :: _, e => by cases e
  | _ :: _, [], e => by cases e
  | p :: l, e :: r, q => by
    obtain ⟨q1, q⟩ := ba (show ((match e.key with | .str y _ => decide (y = p.1) | _ => false) && ((match e.val with | .int j _ => decide (j = p.2) | _ => false) && relI l r)) = true from q)
    obtain ⟨q2, q3⟩ := ba q
    obtain ⟨i1, i2⟩ := rel_find (z := z) q3
    have hk : ∃ t, e.key = .str p.1 t := by
      cases k : e.key with
      | str y t =>
        rw [k] at q1
        exact ⟨t, by rw [show y = p.1 from of_decide_eq_true q1]⟩
      | _ => rw [k] at q1; cases q1
    have hv : ∃ t, e.val = .int p.2 t := by
      cases k : e.val with
      | int y t =>
        rw [k] at q2
        exact ⟨t, by rw [show y = p.2 from of_decide_eq_true q2]⟩
      | _ => rw [k] at q2; cases q2
    obtain ⟨t, hk⟩ := hk
    obtain ⟨t2, hv⟩ := hv
    have hs : e.key.isStr z = (p.1 == z) := by rw [hk] <;> rfl
    refine ⟨?_, ?_⟩
    · unfold look
      by_cases ez : p.1 = z
      · rw [if_pos ez]
        refine ⟨e, t2, ?_, hv⟩
        rw [List.find?_cons, hs, beq_iff_eq.mpr ez]
      · rw [if_neg ez]
        have hf : (e :: r).find? (·.key.isStr z) = r.find? (·.key.isStr z) := by
          rw [List.find?_cons, hs]
          have : (p.1 == z) = false := beq_eq_false_iff_ne.mpr ez
          rw [this]
        rw [hf]
        exact i1
    · rw [List.any_cons, i2]
      have : e.refKey = false := by
        unfold DictEntry.refKey
        rw [hk]
      rw [this] <;> rfl
theorem itemsB_ok {x : Str} {l : List (Str × Int)} (e : itemsB x l K = true) (z : Str) : ∃ r, PySem.W.nsIn K (ga K x) z = some r ∧ RelV (match look l z with | some k => V.int k | none => V.non) (r.getD .none) := by
  unfold itemsB at e
  cases q : K.lookup (ga K x) with
  | none => rw [q] at e; cases e
  | some o =>
    obtain ⟨oc, od, dt, sl⟩ := o
    rw [q] at e
    cases dt with
    | dict es n =>
      obtain ⟨f, g⟩ := rel_find (z := z) (show relI l es.toList = true from e)
      unfold PySem.W.nsIn
      rw [q]
      show ∃ r, (match es.toList.find? (·.key.isStr z) with | some e => some (some e.val) | none => if es.toList.any (·.refKey) then none else some none) = some r ∧ _
      rw [g]
      cases k : look l z with
      | none =>
        rw [k] at f
        rw [f]
        exact ⟨none, rfl, rfl⟩
      | some i =>
        rw [k] at f
        obtain ⟨e, t, f1, f2⟩ := f
        rw [f1]
        exact ⟨some e.val, rfl, by rw [f2]; exact ⟨t, rfl⟩⟩
    | _ => cases e
def itemsL : List (Str × Int) := [("letter", 2), ("no", 1), ("and", 3), ("or", 3), ("if", 3), ("box", 2)]
/-! ### tables -/
def relG {α : Type} (vb : α → Value → Bool) : List (Str × α) → List DictEntry → Bool
  | [], [] => true
  | p :: l, e :: r => (match e.key with | .str y _ => decide (y = p.1) | _ => false) && (vb p.2 e.val && relG vb l r)
  | _, _ => false
theorem relG_find {α : Type} {vb : α → Value → Bool} {z : Str} : ∀ {l : List (Str × α)} {r : List DictEntry}, relG vb l r = true → (match lookT l z with | some i => ∃ e, r.find? (·.key.isStr z) = some e ∧ vb i e.val = true | none => r.find? (·.key.isStr z) = none) ∧ r.any (·.refKey) = false
  | [], [], _ => ⟨rfl, rfl⟩
  | [], _ :: _, e => by cases e
  | _ :: _, [], e => by cases e
  | p :: l, e :: r, q => by
    obtain ⟨q1, q⟩ := ba (show ((match e.key with | .str y _ => decide (y = p.1) | _ => false) && (vb p.2 e.val && relG vb l r)) = true from q)
    obtain ⟨q2, q3⟩ := ba q
    obtain ⟨i1, i2⟩ := relG_find (z := z) q3
    have hk : ∃ t, e.key = .str p.1 t := by
      cases k : e.key with
      | str y t =>
        rw [k] at q1
        exact ⟨t, by rw [show y = p.1 from of_decide_eq_true q1]⟩
      | _ => rw [k] at q1; cases q1
    obtain ⟨t, hk⟩ := hk
    have hs : e.key.isStr z = (p.1 == z) := by rw [hk] <;> rfl
    refine ⟨?_, ?_⟩
    · unfold lookT
      by_cases ez : p.1 = z
      · rw [if_pos ez]
        refine ⟨e, ?_, q2⟩
        rw [List.find?_cons, hs, beq_iff_eq.mpr ez]
      · rw [if_neg ez]
        have hf : (e :: r).find? (·.key.isStr z) = r.find? (·.key.isStr z) := by
          rw [List.find?_cons, hs]
          have : (p.1 == z) = false := beq_eq_false_iff_ne.mpr ez
          rw [this]
        rw [hf]
        exact i1
    · rw [List.any_cons, i2]
      have : e.refKey = false := by
        unfold DictEntry.refKey
        rw [hk]
      rw [this] <;> rfl
def tabB {α : Type} (vb : α → Value → Bool) (x : Str) (l : List (Str × α)) (K : PySem.W.Frag) : Bool := match K.lookup (ga K x) with
  | some ⟨_, _, .dict es _, _⟩ => relG vb l es.toList
  | _ => false
theorem tabB_ok {α : Type} {vb : α → Value → Bool} {x : Str} {l : List (Str × α)} (e : tabB vb x l K = true) (z : Str) : match lookT l z with | some i => ∃ u, PySem.W.nsIn K (ga K x) z = some (some u) ∧ vb i u = true | none => PySem.W.nsIn K (ga K x) z = some none := by
  unfold tabB at e
  cases q : K.lookup (ga K x) with
  | none => rw [q] at e; cases e
  | some o =>
    obtain ⟨oc, od, dt, sl⟩ := o
    rw [q] at e
    cases dt with
    | dict es n =>
      obtain ⟨f, g⟩ := relG_find (z := z) (show relG vb l es.toList = true from e)
      have u : PySem.W.nsIn K (ga K x) z = (match es.toList.find? (·.key.isStr z) with | some e => some (some e.val) | none => if es.toList.any (·.refKey) then none else some none) := by
        unfold PySem.W.nsIn
        rw [q]
        rfl
      rw [u, g]
      cases k : lookT l z with
      | none =>
        rw [k] at f
        have f' : es.toList.find? (·.key.isStr z) = none := f
        show (match es.toList.find? (·.key.isStr z) with | some e => some (some e.val) | none => if false = true then none else some none) = some none
        rw [f'] <;> rfl
      | some i =>
        rw [k] at f
        obtain ⟨en, f1, f2⟩ : ∃ e, es.toList.find? (·.key.isStr z) = some e ∧ vb i e.val = true := f
        show ∃ u, (match es.toList.find? (·.key.isStr z) with | some e => some (some e.val) | none => if false = true then none else some none) = some (some u) ∧ vb i u = true
        rw [f1]
        exact ⟨en.val, rfl, f2⟩
    | _ => cases e
def vbI (i : Int) : Value → Bool
  | .int j _ => decide (j = i)
  | _ => false
def vbS (i : Str) : Value → Bool
  | .str j _ => decide (j = i)
  | _ => false
theorem tabI_mk (X : K.In h) (G : h.Ns mainGlobals mg) {x : Str} {l : List (Str × Int)} (g : (Fa.glo x).ok K = true) {es : Array DictEntry} {n : Nat} (kd : KDict K w (ga K x) es n) (e : tabB vbI x l K = true) : KTabI K mg w x l := ⟨⟨_, es, n, glo_ok X G g, kd, fun z => by
  have q := tabB_ok e z
  cases k : lookT l z with
  | none => rw [k] at q; exact q
  | some i =>
    rw [k] at q
    obtain ⟨u, q1, q2⟩ : ∃ u, PySem.W.nsIn K (ga K x) z = some (some u) ∧ vbI i u = true := q
    cases u with
    | int j t => exact ⟨t, by rw [q1, show j = i from of_decide_eq_true q2]⟩
    | _ => cases q2⟩⟩
theorem tabS_mk (X : K.In h) (G : h.Ns mainGlobals mg) {x : Str} {l : List (Str × Str)} (g : (Fa.glo x).ok K = true) {es : Array DictEntry} {n : Nat} (kd : KDict K w (ga K x) es n) (e : tabB vbS x l K = true) : KTabS K mg w x l := ⟨⟨_, es, n, glo_ok X G g, kd, fun z => by
  have q := tabB_ok e z
  cases k : lookT l z with
  | none => rw [k] at q; exact q
  | some i =>
    rw [k] at q
    obtain ⟨u, q1, q2⟩ : ∃ u, PySem.W.nsIn K (ga K x) z = some (some u) ∧ vbS i u = true := q
    cases u with
    | str j t => exact ⟨t, by rw [q1, show j = i from of_decide_eq_true q2]⟩
    | _ => cases q2⟩⟩
/-! ### errors -/
/-- what a class of errors is, against the others -/
def errB (all errs : List Str) (D : Str) (K : PySem.W.Frag) : Bool :=
  (all.all fun n => decide (PySem.W.kitOne K (.ref (ga K D)) (.ref (ga K n)) = some (decide (n = D)))) && ((errs.all fun n => decide (PySem.W.exmOne K (.ref (ga K D)) (.ref (ga K n)) = some (decide (n = D)))) &&
  (decide (PySem.W.kitOne K (.ref (ga K D)) (.ref (ga K "CourtError")) = some true) && (decide (PySem.W.kitOne K (.ref (ga K D)) (.type "ValueError") = some true) && (decide (PySem.W.exmOne K (.ref (ga K D)) (.ref (ga K "CourtError")) = some true) &&
  (decide (PySem.W.findIn K (.ref (ga K D)) "__getattribute__" = some (some (.builtin "BaseException.__getattribute__"))) && (decide (PySem.W.findIn K (.ref (ga K D)) "__getattr__" = some none) && (decide (PySem.W.subIn K (.ref (ga K D)) (.type "BaseException") = some true) && (PySem.W.hasDictIn K (ga K D) &&
  (decide (PySem.W.findIn K (.ref (ga K D)) "__class__" = some (some (.builtin "object.__class__"))) && (decide (PySem.W.specialIn K (.builtin "object.__class__") "__get__" = some (some (.builtin "getset_descriptor.__get__"))) && (decide (PySem.W.takesIn K (.builtin "object.__class__") = some true) && decide (PySem.W.mroIn K (ga K D) (.type "object") = some true))))))))))))
structure ErrF (K : PySem.W.Frag) (all errs : List Str) (D : Str) : Prop where
  k : ∀ n ∈ all, PySem.W.kitOne K (.ref (ga K D)) (.ref (ga K n)) = some (decide (n = D))
  hX : ∀ n ∈ errs, PySem.W.exmOne K (.ref (ga K D)) (.ref (ga K n)) = some (decide (n = D))
  kC : PySem.W.kitOne K (.ref (ga K D)) (.ref (ga K "CourtError")) = some true
  kV : PySem.W.kitOne K (.ref (ga K D)) (.type "ValueError") = some true
  hC : PySem.W.exmOne K (.ref (ga K D)) (.ref (ga K "CourtError")) = some true
  eD : ExcC K (ga K D)
/-- a class of errors that is made without arguments -/
def noaB (D : Str) (K : PySem.W.Frag) : Bool := (Fa.exc D).ok K
/-- a class of errors with an __init__ of its own, its attributes -/
def oexO (K : PySem.W.Frag) (C : Addr) : Bool := match K.lookup C with
  | some ⟨.type "type", _, .cls cd, sl⟩ => (match cd.mro, sl.toList with
    | .ref C' :: bm, [_, _, _, _, some (.builtin n), _] => C' == C && n == "ValueError.__new__" && (!cd.hasDel && (cd.hasDict && PySem.HandSPX.refsVE bm))
    | _, _ => false)
  | _ => false
theorem oexO_ok {C : Addr} (q : oexO K C = true) : ∃ nm q N bs bm sn sub ab col dd k0 k1 k2 k3 k5, K.lookup C = some (excClassObj nm q C N bs bm true sn sub ab col dd k0 k1 k2 k3 k5 "ValueError.__new__") ∧ PySem.HandSPX.refsVE bm = true := by
  unfold oexO at q
  split at q
  · rename_i dd cd sl ho
    split at q
    · rename_i C' bm k0 k1 k2 k3 n k5 hm hs
      simp only [Bool.and_eq_true, beq_iff_eq, Bool.not_eq_true'] at q
      obtain ⟨⟨rfl, rfl⟩, hdel, hdi, ht⟩ := q
      obtain ⟨nm, bs, mro, ns, qn, hd, sn, sub, ab, col, del⟩ := cd
      dsimp only at hm hdel hdi
      subst hm hdel hdi
      have hsl : sl = #[k0, k1, k2, k3, some (.builtin "ValueError.__new__"), k5] := by
        obtain ⟨l⟩ := sl
        simp only at hs
        rw [hs]
      subst hsl
      exact ⟨nm, qn, ns, bs, bm, sn, sub, ab, col, dd, k0, k1, k2, k3, k5, ho, ht⟩
    · cases q
  · cases q
def iniB (D : Str) (ats : List Str) (K : PySem.W.Frag) : Bool :=
  oexO K (ga K D) && (decide (PySem.W.findIn K (.ref (ga K D)) "__setattr__" = some (some (.builtin "object.__setattr__"))) && (decide (PySem.W.subIn K (.ref (ga K D)) (.type "BaseException") = some true) && (decide (PySem.W.typeIn K (.ref (ga K D)) = some (.type "type")) && (PySem.W.keepIn K (.ref (ga K D)) &&
  (decide (PySem.W.findIn K (.ref (ga K D)) "__init__" = some (some (.ref (fAd K (D, some "__init__"))))) && (decide (PySem.W.typeIn K (.ref (fAd K (D, some "__init__"))) = some (.type "function")) && (xfB K (ga K D) && ats.all fun a => decide (PySem.W.findIn K (.ref (ga K D)) a = some none))))))))
structure IniF (K : PySem.W.Frag) (D : Str) (ats : List Str) : Prop where
  O : OexC K (ga K D)
  I : PySem.W.findIn K (.ref (ga K D)) "__init__" = some (some (.ref (fAd K (D, some "__init__"))))
  T : PySem.W.typeIn K (.ref (fAd K (D, some "__init__"))) = some (.type "function")
  X : XfC K (ga K D)
  A : ∀ a ∈ ats, PySem.W.findIn K (.ref (ga K D)) a = some none
theorem iniB_ok {D : Str} {ats : List Str} (e : iniB D ats K = true) : IniF K D ats := by
  obtain ⟨e1, e⟩ := ba e
  obtain ⟨e2, e⟩ := ba e
  obtain ⟨e3, e⟩ := ba e
  obtain ⟨e4, e⟩ := ba e
  obtain ⟨e5, e⟩ := ba e
  obtain ⟨e6, e⟩ := ba e
  obtain ⟨e7, e⟩ := ba e
  obtain ⟨e8, e9⟩ := ba e
  exact ⟨⟨oexO_ok e1, of_decide_eq_true e2, of_decide_eq_true e3, of_decide_eq_true e4, e5⟩, of_decide_eq_true e6, of_decide_eq_true e7, xfB_ok e8, fun a ha => of_decide_eq_true (List.all_eq_true.mp e9 a ha)⟩
/-- the def of a method -/
theorem me_of {fa : List Fa} {fn : List DefD} (c : SaysD fa fn K) (i : Nat) {C m q : Str} {st : Stmt} {ps : List Str} (hd : fn[i]? = some (dm C m q st))
    (hb : ∀ (kV doc pm : Value) (an : Option Addr) (cdv ct : Value) (us : List Value), us.length = ps.length → bindArgs (PySem.W.fnOf m q (defArgs st) (defBody st) (defScope st) .none kV doc pm an cdv ct) ⟨us, []⟩ = pure (ps.zip us)) : ∃ fd, Fun K m q st (fAd K (C, some m)) fd ∧ Binds K fd ps [] := by
  obtain ⟨fd, F⟩ := c.def_ i (d := dm C m q st) hd
  have F' := fun_of F
  exact ⟨fd, F', F'.binds hb⟩
theorem sqT_lit {x : Str} {xs : List Str} (X : K.In h) (G : h.Ns mainGlobals mg) (g : (Fa.glo x).ok K = true) (e : tupS x xs K = true) : ∃ a, mg x = some (.ref a) ∧ ∀ H, SqT K H a (xs.map V.str) := ⟨_, glo_ok X G g, fun H => tupS_ok e H⟩
end
/-! ### the hook: the globals, what the classes hold, the code -/
section
variable {α : Type}
def forceL : List Addr → (List Addr → α) → α
  | [], k => k []
  | a :: r, k => HandSHeadRun.frNat a fun a => forceL r fun r => k (a :: r)
theorem forceL_eq : ∀ (l : List Addr) (k : List Addr → α), forceL l k = k l
  | [], _ => rfl
  | a :: r, k => by
    show HandSHeadRun.frNat a (fun a => forceL r fun r => k (a :: r)) = _
    rw [HandSHeadRun.frNat_eq, forceL_eq r]
def withFr (g : Addr → Option Obj) : List Addr → (PySem.W.Frag → α) → α
  | [], k => k []
  | a :: r, k => match g a with
    | some o => withFr g r fun f => k ((a, o) :: f)
    | none => withFr g r k
theorem withFr_eq {g : Addr → Option Obj} : ∀ (l : List Addr) (k : PySem.W.Frag → α), withFr g l k = k (frG g l)
  | [], _ => rfl
  | a :: r, k => by
    unfold frG
    rw [List.filterMap_cons]
    show (match g a with | some o => withFr g r fun f => k ((a, o) :: f) | none => withFr g r k) = _
    cases g a with
    | none => exact withFr_eq r k
    | some o => exact withFr_eq r _
end
def objRefs (g : Addr → Option Obj) (a : Addr) : List Addr := match g a with
  | some o => refsO o
  | none => []
def step1 (g : Addr → Option Obj) (a : Addr) : List Addr := match g a with
  | some ⟨_, _, .func fd, _⟩ => refV fd.code
  | some ⟨_, _, .cls cd, _⟩ => cd.ns :: objRefs g cd.ns
  | _ => []
def codesO (g : Addr → Option Obj) (a : Addr) : List Addr := match g a with
  | some ⟨_, _, .func fd, _⟩ => refV fd.code
  | _ => []
def withK {α : Type} (g : Addr → Option Obj) (k : PySem.W.Frag → α) : α := forceL (objRefs g mainGlobals) fun gs => forceL (gs.flatMap (step1 g)) fun ms => forceL (ms.flatMap (codesO g)) fun cs => withFr g (mainGlobals :: (gs ++ (ms ++ cs))) k
theorem withK_eq {α : Type} (g : Addr → Option Obj) : ∃ as, ∀ k : PySem.W.Frag → α, withK g k = k (frG g as) := ⟨_, fun k => by
  unfold withK
  rw [forceL_eq, forceL_eq, forceL_eq, withFr_eq]⟩
abbrev AlY : Type := AlT × Bool
def obsY (fa : List Fa) (fn : List DefD) (ts : List He.Tab) (ex : PySem.W.Frag → Bool) (g : Addr → Option Obj) : AlY := withK g fun K => (obsT fa fn ts K, ex K)
structure SaysY (fa : List Fa) (fn : List DefD) (ts : List He.Tab) (ex : PySem.W.Frag → Bool) (w : World) (K : PySem.W.Frag) : Prop where
  t : SaysT fa fn ts w K
  more : ex K = true
def hookY (fa : List Fa) (fn : List DefD) (ts : List He.Tab) (ex : PySem.W.Frag → Bool) : PySem.W.Hook where
  α := AlY
  obs := fun s => obsY fa fn ts ex s.heap.get?
  val := fun w => (valT fn ts w, true)
  says := fun w h => ∃ K : PySem.W.Frag, K.In h ∧ SaysY fa fn ts ex w K
  of := fun _ _ e => by
    obtain ⟨as, q⟩ := withK_eq (α := AlY) _
    have e' := (q _).symm.trans e
    exact ⟨_, frG_in, congrArg (fun z : AlY => z.1) e', congrArg (fun z : AlY => z.2) e'⟩
  keeps := fun _ _ _ ⟨K, hK, c⟩ k => ⟨K, PySem.W.Frag.In.keeps hK k, c⟩
theorem obsY_eq {fa : List Fa} {fn : List DefD} {ts : List He.Tab} {ex : PySem.W.Frag → Bool} {g : Addr → Option Obj} {s : Shared} (h : ∀ a, g a = s.heap.get? a) : obsY fa fn ts ex g = (hookY fa fn ts ex).obs s := by
  have e : g = s.heap.get? := funext h
  rw [e] <;> rfl
end LH

set_option Elab.async false
set_option linter.all false
set_option maxRecDepth 100000
set_option maxHeartbeats 0
namespace K12
open PySem PySem.Spec PyProof.Rows L2 LL
/-! the head: what the kernel reads off the end of the top -/
def top (i : Nat) : Stmt := PySem.Challenge.pw_provedorshown_k12_single_lines.main.body.getD i (.Pass ⟨0, 0, 0, 0⟩)
abbrev s_is_integer : Stmt := top 7
abbrev s_is_between : Stmt := top 8
abbrev s_is_tuple_of : Stmt := top 9
abbrev s_are_any_rows : Stmt := top 10
abbrev s_is_rising : Stmt := top 11
abbrev s_are_rows : Stmt := top 12
abbrev s_check_logic : Stmt := top 19
abbrev s_is_boxed : Stmt := top 20
abbrev s_is_node : Stmt := top 21
abbrev s_wrong_row : Stmt := top 22
abbrev s_check_rows_of : Stmt := top 23
abbrev s_check_claim_to : Stmt := top 25
abbrev s_check_any_claim : Stmt := top 26
abbrev s_is_line : Stmt := top 31
abbrev s_added : Stmt := top 32
abbrev s_keeps_right : Stmt := top 33
abbrev s_fits : Stmt := top 34
abbrev s_begins : Stmt := top 37
abbrev s_is_outside : Stmt := top 38
abbrev s_is_last : Stmt := top 39
abbrev s_wrong_place : Stmt := top 40
abbrev s_wrong_line : Stmt := top 41
abbrev s_is_derivation : Stmt := top 42
abbrev s_law_stream : Stmt := top 44
abbrev s_law_next : Stmt := top 45
abbrev s_law_pick : Stmt := top 46
abbrev s_law_from : Stmt := top 47
abbrev s_law_some : Stmt := top 48
abbrev s_law_shuffled : Stmt := top 49
abbrev s_law_same : Stmt := top 50
abbrev s_law_copy : Stmt := top 51
abbrev s_law_row : Stmt := top 52
abbrev s_law_parts : Stmt := top 53
abbrev s_law_leaf : Stmt := top 54
abbrev s_law_tree : Stmt := top 55
abbrev s_law_is_boxed : Stmt := top 56
abbrev s_law_told : Stmt := top 57
abbrev s_law_is_right : Stmt := top 58
abbrev s_law_logic : Stmt := top 59
abbrev s_law_words : Stmt := top 60
abbrev s_law_sheet : Stmt := top 61
abbrev s_law_sides : Stmt := top 62
abbrev s_law_single : Stmt := top 63
abbrev s_law : Stmt := top 64
def hFa0 : List He.Fa := [.glo "is_integer", .glo "is_between", .glo "is_tuple_of", .glo "are_any_rows", .glo "is_rising", .glo "are_rows", .glo "check_logic", .glo "is_boxed", .glo "is_node", .glo "wrong_row", .glo "check_rows_of", .glo "check_claim_to", .glo "check_any_claim", .glo "is_line", .glo "added", .glo "keeps_right", .glo "fits", .glo "begins", .glo "is_outside", .glo "is_last", .glo "wrong_place", .glo "wrong_line", .glo "is_derivation", .glo "_law_stream", .glo "_law_next", .glo "_law_pick", .glo "_law_from", .glo "_law_some", .glo "_law_shuffled", .glo "_law_same"]
def hFa1 : List He.Fa := [.glo "_law_copy", .glo "_law_row", .glo "_law_parts", .glo "_law_leaf", .glo "_law_tree", .glo "_law_is_boxed", .glo "_law_told", .glo "_law_is_right", .glo "_law_logic", .glo "_law_words", .glo "_law_sheet", .glo "_law_sides", .glo "_law_single", .glo "law", .free "ValueError", .free "abs", .free "all", .free "any", .free "bool", .free "dict", .free "enumerate", .free "int", .free "isinstance", .free "len", .free "list", .free "range", .free "set", .free "sorted", .free "str", .free "tuple"]
def hFa2 : List He.Fa := [.free "zip", .glo "ITEMS", .int "LAST_LETTER" 7, .int "MOST_PAPER_ROWS" 5000, .glo "LOGICS", .glo "MODAL", .glo "COUNTS", .glo "LEFT_WORDS", .glo "RIGHT_WORDS", .glo "Rules", .cls "Rules", .noat "Rules" "logic", .noat "Rules" "sheet", .noat "Rules" "theory", .mkr "Rules", .meth "Rules" "asks_main", .meth "Rules" "box_room", .meth "Rules" "rooms", .meth "Rules" "is_right", .glo "CourtError", .glo "BadLogic", .glo "BadSheet", .glo "BadClaim", .glo "BadValue", .exc "BadLogic"]
def hFa : List He.Fa := hFa0 ++ hFa1 ++ hFa2
def hFn0 : List He.DefD := [LH.dd "is_integer" s_is_integer, LH.dd "is_between" s_is_between, LH.dd "is_tuple_of" s_is_tuple_of, LH.dd "are_any_rows" s_are_any_rows, LH.dd "is_rising" s_is_rising, LH.dd "are_rows" s_are_rows, LH.dd "check_logic" s_check_logic, LH.dd "is_boxed" s_is_boxed, LH.dd "is_node" s_is_node, LH.dd "wrong_row" s_wrong_row, LH.dd "check_rows_of" s_check_rows_of, LH.dd "check_claim_to" s_check_claim_to, LH.dd "check_any_claim" s_check_any_claim, LH.dd "is_line" s_is_line, LH.dd "added" s_added, LH.dd "keeps_right" s_keeps_right, LH.dd "fits" s_fits, LH.dd "begins" s_begins, LH.dd "is_outside" s_is_outside, LH.dd "is_last" s_is_last, LH.dd "wrong_place" s_wrong_place, LH.dd "wrong_line" s_wrong_line, LH.dd "is_derivation" s_is_derivation, LH.dd "_law_stream" s_law_stream, LH.dd "_law_next" s_law_next, LH.dd "_law_pick" s_law_pick, LH.dd "_law_from" s_law_from, LH.dd "_law_some" s_law_some, LH.dd "_law_shuffled" s_law_shuffled, LH.dd "_law_same" s_law_same]
def hFn1 : List He.DefD := [LH.dd "_law_copy" s_law_copy, LH.dd "_law_row" s_law_row, LH.dd "_law_parts" s_law_parts, LH.dd "_law_leaf" s_law_leaf, LH.dd "_law_tree" s_law_tree, LH.dd "_law_is_boxed" s_law_is_boxed, LH.dd "_law_told" s_law_told, LH.dd "_law_is_right" s_law_is_right, LH.dd "_law_logic" s_law_logic, LH.dd "_law_words" s_law_words, LH.dd "_law_sheet" s_law_sheet, LH.dd "_law_sides" s_law_sides, LH.dd "_law_single" s_law_single, LH.dd "law" s_law, LH.dm "Rules" "__init__" "Rules.__init__" (inClass (top 35) 0), LH.dm "Rules" "asks_main" "Rules.asks_main" (inClass (top 35) 1), LH.dm "Rules" "box_room" "Rules.box_room" (inClass (top 35) 2), LH.dm "Rules" "rooms" "Rules.rooms" (inClass (top 35) 3), LH.dm "Rules" "is_right" "Rules.is_right" (inClass (top 35) 4), LH.dm "BadSheet" "__init__" "BadSheet.__init__" (inClass (top 3) 0), LH.dm "BadClaim" "__init__" "BadClaim.__init__" (inClass (top 4) 0), LH.dm "BadValue" "__init__" "BadValue.__init__" (inClass (top 5) 0)]
def hFn : List He.DefD := hFn0 ++ hFn1
def hTs : List He.Tab := [(fun K => He.ga K "ITEMS", ["letter", "no", "and", "or", "if", "box"]), (fun K => He.ga K "COUNTS", ["axiom", "no", "given", "and left", "or left", "if left", "box left", "and right", "or right", "if right", "box", "cut"]), (fun K => He.ga K "LEFT_WORDS", ["and left", "or left", "if left", "box left"]), (fun K => He.ga K "RIGHT_WORDS", ["and right", "or right", "if right", "box"])]
def hEx0 : List (PySem.W.Frag → Bool) := [LH.itemsB "ITEMS" LH.itemsL, LH.tupS "LOGICS" ["classical", "intuit", "k", "s4", "gl"], LH.tupS "MODAL" ["k", "s4", "gl"], LH.tabB LH.vbI "COUNTS" cntL, LH.tabB LH.vbS "LEFT_WORDS" lftL, LH.tabB LH.vbS "RIGHT_WORDS" rgtL, LH.iniB "BadSheet" ["row"], LH.iniB "BadClaim" ["word"], LH.iniB "BadValue" ["name"]]
def hEx : List (PySem.W.Frag → Bool) := hEx0
abbrev hR : PySem.W.OpenRow := PySem.W.OpenLaw.row PySem.Challenge.rw_provedorshown_k12_single_lines
abbrev hk : PySem.W.Hook := LH.hookY hFa hFn hTs (LH.allB hEx)
def hOb (s : PySem.W.SharedT) : LH.AlY := LH.obsY hFa hFn hTs (LH.allB hEx) (HandSHeadRun.getT s)
theorem hOb_eq (s : PySem.W.SharedT) : hOb s = hk.obs s.abs := LH.obsY_eq (HandSHeadRun.getT_eq s)
def hNames0 : List Str := ["__name__", "CourtError", "BadLogic", "BadSheet", "BadClaim", "BadValue", "is_integer", "is_between", "is_tuple_of", "are_any_rows", "is_rising", "are_rows", "LOGICS", "MODAL", "ITEMS", "LAST_LETTER", "MOST_PAPER_ROWS", "check_logic", "is_boxed", "is_node", "wrong_row", "check_rows_of", "check_claim_to", "check_any_claim", "COUNTS", "LEFT_WORDS", "RIGHT_WORDS", "is_line", "added", "keeps_right"]
def hNames1 : List Str := ["fits", "Rules", "begins", "is_outside", "is_last", "wrong_place", "wrong_line", "is_derivation", "_law_stream", "_law_next", "_law_pick", "_law_from", "_law_some", "_law_shuffled", "_law_same", "_law_copy", "_law_row", "_law_parts", "_law_leaf", "_law_tree", "_law_is_boxed", "_law_told", "_law_is_right", "_law_logic", "_law_words", "_law_sheet", "_law_sides", "_law_single"]
def hNames : List Str := hNames0 ++ hNames1
abbrev hQ : Program := PySem.W.view hR.prog [64]
theorem hRun_false (w : World) : HandSHeadRun.RunEq hR hQ hk hOb 20000 hNames (w.withFollow "special-get-raises" false) := by
  intro os
  kernel_rfl
theorem hRun_true (w : World) : HandSHeadRun.RunEq hR hQ hk hOb 20000 hNames (w.withFollow "special-get-raises" true) := by
  intro os
  kernel_rfl
theorem hRun (w : World) : HandSHeadRun.RunEq hR hQ hk hOb 20000 hNames w := PySem.W.byRow2 "special-get-raises" (P := fun w => HandSHeadRun.RunEq hR hQ hk hOb 20000 hNames w) hRun_false hRun_true w
theorem hAny (call : PySem.W.WalkO hQ hNames (PySem.W.XL hQ []) hk.says hR.toRowW (HandSHeadRun.topDef hR.prog 64) [] fun f vs => PySem.call f vs) : hR.Holds := by
  refine HandSHeadRun.head_any (r := hR) (q := hQ) (H := hk) (ob := hOb) (M := 20000) (loose := hNames) (d := HandSHeadRun.topDef hR.prog 64) (kwd := []) hOb_eq
    (by kernel_rfl) (fun s => by kernel_rfl) hRun (by kernel_rfl) (by kernel_rfl) (by kernel_rfl) (by rfl) (by first | assumption | decide +kernel) (by decide +kernel) ⟨rfl, rfl, rfl, rfl, rfl, by decide +kernel⟩ ?hw call
  case hw => w_witness2
theorem hEnd (call : PySem.W.WalkO hQ hNames (PySem.W.XL hQ []) hk.says hR.toRowW (HandSHeadRun.topDef hR.prog 64) [] fun f vs => PySem.call f vs) : PySem.Challenge.rw_provedorshown_k12_single_lines.Holds := by
  w_on; o_law
  exact hAny call
theorem hName : (HandSHeadRun.topDef hR.prog 64).name = ("law" : PySem.Str) := by kernel_rfl
end K12

set_option Elab.async false
set_option linter.all false
set_option maxRecDepth 100000
set_option maxHeartbeats 4000000
/-! LLib: what the proofs of several laws share. Heaps that grow while the addresses of M may change; plain data; the spec of a sheet. -/
namespace LL
open PySem PySem.Spec PyProof.Rows L2

theorem iteB {b : Bool} {A B : Prop} (h1 : b = true → A) (h2 : b = false → B) : if b = true then A else B := by
  cases b with
  | true => rw [if_pos rfl]; exact h1 rfl
  | false => rw [if_neg Bool.false_ne_true]; exact h2 rfl
theorem iteY {b : Bool} {A B : Prop} (hb : b = true) (h : A) : if b = true then A else B := by rw [if_pos hb]; exact h
theorem iteN {b : Bool} {A B : Prop} (hb : b = false) (h : B) : if b = true then A else B := by rw [hb, if_neg Bool.false_ne_true]; exact h

/-! ### heaps -/
def Adv (M : List Addr) (H H' : Hp) : Prop := ∀ b o, b ∉ M → H b = some o → H' b = some o
section
variable {M N : List Addr} {H H1 H2 H' : Hp} {p : Addr} {o u : HO}
theorem Adv.refl (M : List Addr) (H : Hp) : Adv M H H := fun _ _ _ h => h
theorem Adv.trans (a : Adv M H H1) (b : Adv M H1 H2) : Adv M H H2 := fun c o hc h => b c o hc (a c o hc h)
theorem Adv.more (a : Adv M H H') (h : ∀ b ∈ M, b ∈ N) : Adv N H H' := fun c o hc e => a c o (fun z => hc (h c z)) e
theorem Adv.new (h : H p = none) : Adv M H (upd H p o) := fun b u _ e => by
  rw [upd_ne (ne_of_none e h)]
  exact e
theorem Adv.set (h : p ∈ M) : Adv M H (upd H p o) := fun b u hb e => by
  rw [upd_ne (fun z => hb (by rw [z]; exact h))]
  exact e
theorem Adv.newT (a : Adv M H H1) (h : H1 p = none) : Adv M H (upd H1 p o) := a.trans (Adv.new h)
theorem Adv.setT (a : Adv M H H1) (h : p ∈ M) : Adv M H (upd H1 p o) := a.trans (Adv.set h)
/-- a change at an address that H does not know -/
theorem Adv.mut (a : Adv M H H1) (h : H p = none) : Adv M H (upd H1 p o) := fun b u hb e => by
  rw [upd_ne (ne_of_none e h)]
  exact a b u hb e
theorem Adv.free (a : Adv M H H') (hp : p ∉ M) (h : H' p = none) : H p = none := by
  cases q : H p with
  | none => rfl
  | some o =>
    rw [a p o hp q] at h
    cases h
theorem Adv.same (a : Adv [] H H') : Same H H' := fun b o e => a b o (by simp) e
theorem Adv.get (a : Adv M H H') (e : H p = some o) (hp : p ∉ M) : H' p = some o := a p o hp e
/-- M's last address is new: it need not be told -/
theorem Adv.drop (a : Adv (p :: M) H H') (h : H p = none) : Adv M H H' := fun b u hb e => a b u (fun z => by
  rcases List.mem_cons.mp z with z | z
  · rw [z, h] at e; cases e
  · exact hb z) e
end
theorem ne_lst_ints {l : Addr} {c k : Int} {ns : List Int} : HO.lst [V.ref l, .int c, .int k] ≠ HO.lst (ns.map V.int) := by
  intro e
  have e2 : [V.ref l, .int c, .int k] = ns.map V.int := by injection e
  cases ns with
  | nil => cases e2
  | cons n r =>
    rw [List.map_cons] at e2
    injection e2 with h _
    cases h

/-! ### plain data -/
/-- the tuples of the written part (they never change), and how a key of parts is hashed -/
class KW where
  tp : Addr → List V → Prop
  hs : List Key → Int
/-- a tuple: tracked, or one of the written part -/
def Tp [KW] (M : List Addr) (H : Hp) (a : Addr) (vs : List V) : Prop := (a ∉ M ∧ H a = some (.tup vs)) ∨ KW.tp a vs
section
variable [KW]
mutual
def Is (M : List Addr) (H : Hp) : PyData → V → Prop
  | .none, v => v = .non
  | .bool b, v => v = .bl b
  | .int i, v => v = .int i
  | .str x, v => v = .str x
  | .list ds, v => ∃ a vs, v = .ref a ∧ a ∉ M ∧ H a = some (.lst vs) ∧ IsDs M H ds vs
  | .tuple ds, v => ∃ a vs, v = .ref a ∧ Tp M H a vs ∧ IsDs M H ds vs
  | .dict kvs, v => kvs = [] ∧ ∃ a, v = .ref a ∧ a ∉ M ∧ H a = some (.dK [])
def IsDs (M : List Addr) (H : Hp) : List PyData → List V → Prop
  | [], vs => vs = []
  | d :: ds, vs => ∃ v r, vs = v :: r ∧ Is M H d v ∧ IsDs M H ds r
end
section
variable {M N : List Addr} {H H' : Hp} {p : Addr}
theorem Tp.imp (h : ∀ b o, b ∉ M → H b = some o → b ∉ N ∧ H' b = some o) {a : Addr} {vs : List V} (x : Tp M H a vs) : Tp N H' a vs := by
  rcases x with ⟨na, ha⟩ | x
  · exact .inl ⟨(h a _ na ha).1, (h a _ na ha).2⟩
  · exact .inr x
theorem Tp.adv {a : Addr} {vs : List V} (x : Tp M H a vs) (e : Adv M H H') : Tp M H' a vs := x.imp fun b o hb z => ⟨hb, e b o hb z⟩
theorem Tp.less {a : Addr} {vs : List V} (x : Tp M H a vs) (h : ∀ b ∈ N, b ∈ M) : Tp N H a vs := x.imp fun b o hb z => ⟨fun y => hb (h b y), z⟩
theorem Tp.fresh {a : Addr} {vs : List V} (x : Tp M H a vs) (h : H p = none) : Tp (p :: M) H a vs := x.imp fun b o hb e => ⟨fun z => (List.mem_cons.mp z).elim (ne_of_none e h) hb, e⟩
theorem Tp.of {a : Addr} {vs : List V} (h : H a = some (.tup vs)) (na : a ∉ M) : Tp M H a vs := .inl ⟨na, h⟩
mutual
theorem Is.imp (h : ∀ b o, b ∉ M → H b = some o → b ∉ N ∧ H' b = some o) : ∀ (d : PyData) (v : V), Is M H d v → Is N H' d v
  | .none, v, x => by unfold Is at x ⊢; exact x
  | .bool _, v, x => by unfold Is at x ⊢; exact x
  | .int _, v, x => by unfold Is at x ⊢; exact x
  | .str _, v, x => by unfold Is at x ⊢; exact x
  | .list ds, v, x => by
    unfold Is at x ⊢
    obtain ⟨a, vs, rfl, na, ha, hs⟩ := x
    exact ⟨a, vs, rfl, (h a _ na ha).1, (h a _ na ha).2, IsDs.imp h ds vs hs⟩
  | .tuple ds, v, x => by
    unfold Is at x ⊢
    obtain ⟨a, vs, rfl, ha, hs⟩ := x
    exact ⟨a, vs, rfl, ha.imp h, IsDs.imp h ds vs hs⟩
  | .dict kvs, v, x => by
    unfold Is at x ⊢
    obtain ⟨rfl, a, rfl, na, ha⟩ := x
    exact ⟨rfl, a, rfl, (h a _ na ha).1, (h a _ na ha).2⟩
theorem IsDs.imp (h : ∀ b o, b ∉ M → H b = some o → b ∉ N ∧ H' b = some o) : ∀ (ds : List PyData) (vs : List V), IsDs M H ds vs → IsDs N H' ds vs
  | [], vs, x => by unfold IsDs at x ⊢; exact x
  | d :: ds, vs, x => by
    unfold IsDs at x ⊢
    obtain ⟨v, r, rfl, h1, h2⟩ := x
    exact ⟨v, r, rfl, Is.imp h d v h1, IsDs.imp h ds r h2⟩
end
theorem Is.adv {d : PyData} {v : V} (x : Is M H d v) (a : Adv M H H') : Is M H' d v := Is.imp (fun b o hb e => ⟨hb, a b o hb e⟩) d v x
theorem IsDs.adv {ds : List PyData} {vs : List V} (x : IsDs M H ds vs) (a : Adv M H H') : IsDs M H' ds vs := IsDs.imp (fun b o hb e => ⟨hb, a b o hb e⟩) ds vs x
theorem Is.less {d : PyData} {v : V} (x : Is M H d v) (h : ∀ b ∈ N, b ∈ M) : Is N H d v := Is.imp (fun b o hb e => ⟨fun z => hb (h b z), e⟩) d v x
theorem IsDs.less {ds : List PyData} {vs : List V} (x : IsDs M H ds vs) (h : ∀ b ∈ N, b ∈ M) : IsDs N H ds vs := IsDs.imp (fun b o hb e => ⟨fun z => hb (h b z), e⟩) ds vs x
theorem Is.fresh {d : PyData} {v : V} (x : Is M H d v) (h : H p = none) : Is (p :: M) H d v := Is.imp (fun b o hb e => ⟨fun z => (List.mem_cons.mp z).elim (ne_of_none e h) hb, e⟩) d v x
theorem IsDs.fresh {ds : List PyData} {vs : List V} (x : IsDs M H ds vs) (h : H p = none) : IsDs (p :: M) H ds vs := IsDs.imp (fun b o hb e => ⟨fun z => (List.mem_cons.mp z).elim (ne_of_none e h) hb, e⟩) ds vs x
theorem IsDs.len : ∀ {ds : List PyData} {vs : List V}, IsDs M H ds vs → vs.length = ds.length
  | [], vs, x => by unfold IsDs at x; rw [x]; rfl
  | d :: ds, vs, x => by
    unfold IsDs at x
    obtain ⟨v, r, rfl, _, h2⟩ := x
    rw [List.length_cons, List.length_cons, h2.len]
theorem IsDs.get : ∀ {ds : List PyData} {vs : List V} {i : Nat} {d : PyData}, IsDs M H ds vs → ds[i]? = some d → ∃ v, vs[i]? = some v ∧ Is M H d v
  | [], vs, i, d, x, e => by simp at e
  | c :: ds, vs, 0, d, x, e => by
    unfold IsDs at x
    obtain ⟨v, r, rfl, h1, h2⟩ := x
    have e' : c = d := Option.some.inj e
    subst e'
    exact ⟨v, rfl, h1⟩
  | c :: ds, vs, i + 1, d, x, e => by
    unfold IsDs at x
    obtain ⟨v, r, rfl, h1, h2⟩ := x
    exact h2.get (i := i) (by simpa using e)
theorem IsDs.getV : ∀ {ds : List PyData} {vs : List V} {i : Nat} {v : V}, IsDs M H ds vs → vs[i]? = some v → ∃ d, ds[i]? = some d ∧ Is M H d v := fun {ds vs i v} x e => by
  have hi : i < ds.length := by rw [← x.len]; exact (List.getElem?_eq_some_iff.mp e).1
  obtain ⟨w, e2, h⟩ := x.get (List.getElem?_eq_getElem hi)
  rw [e] at e2
  cases e2
  exact ⟨_, List.getElem?_eq_getElem hi, h⟩
theorem IsDs.app : ∀ {ds es : List PyData} {vs ws : List V}, IsDs M H ds vs → IsDs M H es ws → IsDs M H (ds ++ es) (vs ++ ws)
  | [], es, vs, ws, x, y => by unfold IsDs at x; subst x; exact y
  | d :: ds, es, vs, ws, x, y => by
    unfold IsDs at x
    obtain ⟨v, r, rfl, h1, h2⟩ := x
    show IsDs M H (d :: (ds ++ es)) (v :: (r ++ ws))
    unfold IsDs
    exact ⟨v, r ++ ws, rfl, h1, h2.app y⟩
theorem IsDs.one {d : PyData} {v : V} (x : Is M H d v) : IsDs M H [d] [v] := by
  unfold IsDs
  exact ⟨v, [], rfl, x, by unfold IsDs; rfl⟩
theorem IsDs.nil : IsDs M H [] [] := by unfold IsDs; rfl
theorem IsDs.cons {d : PyData} {v : V} {ds : List PyData} {vs : List V} (x : Is M H d v) (y : IsDs M H ds vs) : IsDs M H (d :: ds) (v :: vs) := by
  unfold IsDs
  exact ⟨v, vs, rfl, x, y⟩
theorem IsDs.set : ∀ {ds : List PyData} {vs : List V} {i : Nat} {d : PyData} {v : V}, IsDs M H ds vs → Is M H d v → IsDs M H (ds.set i d) (vs.set i v)
  | [], vs, i, d, v, x, y => by unfold IsDs at x; subst x; exact .nil
  | c :: ds, vs, 0, d, v, x, y => by
    unfold IsDs at x
    obtain ⟨w, r, rfl, h1, h2⟩ := x
    exact .cons y h2
  | c :: ds, vs, i + 1, d, v, x, y => by
    unfold IsDs at x
    obtain ⟨w, r, rfl, h1, h2⟩ := x
    exact .cons h1 (h2.set y)
theorem IsDs.drop : ∀ {ds : List PyData} {vs : List V} (i : Nat), IsDs M H ds vs → IsDs M H (ds.drop i) (vs.drop i)
  | ds, vs, 0, x => x
  | [], vs, i + 1, x => by unfold IsDs at x; subst x; exact .nil
  | c :: ds, vs, i + 1, x => by
    unfold IsDs at x
    obtain ⟨w, r, rfl, h1, h2⟩ := x
    exact h2.drop i
theorem Is.int {i : Int} : Is M H (.int i) (.int i) := by unfold Is; rfl
theorem Is.str {x : Str} : Is M H (.str x) (.str x) := by unfold Is; rfl
theorem Is.bl {b : Bool} : Is M H (.bool b) (.bl b) := by unfold Is; rfl
theorem Is.non : Is M H .none .non := by unfold Is; rfl
theorem Is.lst {a : Addr} {ds : List PyData} {vs : List V} (h : H a = some (.lst vs)) (hn : a ∉ M) (x : IsDs M H ds vs) : Is M H (.list ds) (.ref a) := by
  unfold Is
  exact ⟨a, vs, rfl, hn, h, x⟩
theorem Is.tup {a : Addr} {ds : List PyData} {vs : List V} (h : H a = some (.tup vs)) (hn : a ∉ M) (x : IsDs M H ds vs) : Is M H (.tuple ds) (.ref a) := by
  unfold Is
  exact ⟨a, vs, rfl, .inl ⟨hn, h⟩, x⟩
theorem Is.tp {a : Addr} {ds : List PyData} {vs : List V} (h : Tp M H a vs) (x : IsDs M H ds vs) : Is M H (.tuple ds) (.ref a) := by
  unfold Is
  exact ⟨a, vs, rfl, h, x⟩
theorem Is.dic {a : Addr} (h : H a = some (.dK [])) (hn : a ∉ M) : Is M H (.dict []) (.ref a) := by
  unfold Is
  exact ⟨rfl, a, rfl, hn, h⟩
theorem Is.intE {i : Int} {v : V} (x : Is M H (.int i) v) : v = .int i := by unfold Is at x; exact x
theorem Is.strE {i : Str} {v : V} (x : Is M H (.str i) v) : v = .str i := by unfold Is at x; exact x
theorem Is.blE {i : Bool} {v : V} (x : Is M H (.bool i) v) : v = .bl i := by unfold Is at x; exact x
theorem Is.nonE {v : V} (x : Is M H .none v) : v = .non := by unfold Is at x; exact x
theorem Is.lstE {ds : List PyData} {v : V} (x : Is M H (.list ds) v) : ∃ a vs, v = .ref a ∧ a ∉ M ∧ H a = some (.lst vs) ∧ IsDs M H ds vs := by unfold Is at x; exact x
theorem Is.tupE {ds : List PyData} {v : V} (x : Is M H (.tuple ds) v) : ∃ a vs, v = .ref a ∧ Tp M H a vs ∧ IsDs M H ds vs := by unfold Is at x; exact x
theorem Is.dicE {kvs : List (PyData × PyData)} {v : V} (x : Is M H (.dict kvs) v) : kvs = [] ∧ ∃ a, v = .ref a ∧ a ∉ M ∧ H a = some (.dK []) := by unfold Is at x; exact x
end
end
mutual
/-- how many values a datum has, itself among them -/
def sz : PyData → Nat
  | .list ds => 1 + szL ds
  | .tuple ds => 1 + szL ds
  | _ => 1
def szL : List PyData → Nat
  | [] => 0
  | d :: ds => sz d + szL ds
end
mutual
def dep : PyData → Nat
  | .list ds => 1 + depL ds
  | .tuple ds => 1 + depL ds
  | _ => 0
def depL : List PyData → Nat
  | [] => 0
  | d :: ds => max (dep d) (depL ds)
end
theorem sz_pos : ∀ d : PyData, 1 ≤ sz d
  | .none => by unfold sz; exact Nat.le_refl _
  | .bool _ => by unfold sz; exact Nat.le_refl _
  | .int _ => by unfold sz; exact Nat.le_refl _
  | .str _ => by unfold sz; exact Nat.le_refl _
  | .list ds => by unfold sz; omega
  | .tuple ds => by unfold sz; omega
  | .dict _ => by unfold sz; exact Nat.le_refl _
theorem szL_nil : szL [] = 0 := by rw [szL]
theorem szL_cons (d : PyData) (ds : List PyData) : szL (d :: ds) = sz d + szL ds := by rw [szL]
theorem szL_app : ∀ ds es : List PyData, szL (ds ++ es) = szL ds + szL es
  | [], es => by rw [List.nil_append, szL_nil, Nat.zero_add]
  | d :: ds, es => by rw [List.cons_append, szL_cons, szL_cons, szL_app ds es, Nat.add_assoc]
theorem dep_mem : ∀ {ds : List PyData} {d : PyData}, d ∈ ds → dep d ≤ depL ds
  | c :: ds, d, h => by
    unfold depL
    rcases List.mem_cons.mp h with e | h
    · rw [e]; exact Nat.le_max_left _ _
    · exact Nat.le_trans (dep_mem h) (Nat.le_max_right _ _)

/-! ### the stream of draws -/
/-- a stream stands at s: the script's copy (none of M), the cell's rest, the next cell's number -/
def StrAt (M : List Addr) (H : Hp) (s : Addr) : Prop := ∃ (l : Addr) (ns : List Int) (c k : Int), H s = some (.lst [V.ref l, .int c, .int k]) ∧ H l = some (.lst (ns.map V.int)) ∧ 0 ≤ c ∧ 0 ≤ k ∧ l ∉ M
section
variable {M N : List Addr} {H H' : Hp} {s p : Addr}
theorem StrAt.adv (x : StrAt M H s) (a : Adv N H H') (hs : s ∉ N) (hn : ∀ b ∈ N, b ∈ M) : StrAt M H' s := by
  obtain ⟨l, ns, c, k, h1, h2, h3, h4, h5⟩ := x
  exact ⟨l, ns, c, k, a _ _ hs h1, a _ _ (fun z => h5 (hn l z)) h2, h3, h4, h5⟩
theorem StrAt.same (x : StrAt M H s) (a : Adv [] H H') : StrAt M H' s := x.adv a (by simp) (fun b z => by simp at z)
theorem StrAt.fresh (x : StrAt M H s) (h : H p = none) : StrAt (p :: M) H s := by
  obtain ⟨l, ns, c, k, h1, h2, h3, h4, h5⟩ := x
  exact ⟨l, ns, c, k, h1, h2, h3, h4, fun z => (List.mem_cons.mp z).elim (ne_of_none h2 h) h5⟩
theorem StrAt.less (x : StrAt M H s) (h : ∀ b ∈ N, b ∈ M) : StrAt N H s := by
  obtain ⟨l, ns, c, k, h1, h2, h3, h4, h5⟩ := x
  exact ⟨l, ns, c, k, h1, h2, h3, h4, fun z => h5 (h l z)⟩
theorem StrAt.here (x : StrAt M H s) : H s ≠ none := by
  obtain ⟨l, ns, c, k, h1, _⟩ := x
  rw [h1]
  simp
end

/-! ### defs -/
/-- a def of the text where it stands behind the top -/
structure Df (K : PySem.W.Frag) (mg : Str → Option Value) (x : Str) (st : Stmt) (ps : List Str) where
  f : Addr
  fd : FuncData
  F : Fun K x x st f fd
  m : mg x = some (.ref f)
  b : Binds K fd ps []
theorem ix_or {X : Cx} {r r' : R2} (h : IxR X r) (h' : IxR X r') : IxR X (fun x y H Q => r x y H Q ∨ r' x y H Q) := by
  intro value slice pins s σ H x y v u Q I rx ry q e
  rcases q with q | q
  · exact h value slice pins s σ H x y v u Q I rx ry q e
  · exact h' value slice pins s σ H x y v u Q I rx ry q e
theorem call_or {X : Cx} {f : Value} {r r' : List V → Hp → VK → Prop} (h : CallR X f r) (h' : CallR X f r') : CallR X f (fun xs H Q => r xs H Q ∨ r' xs H Q) := by
  intro pins s σ H xs us Q I rx q
  rcases q with q | q
  · exact h pins s σ H xs us Q I rx q
  · exact h' pins s σ H xs us Q I rx q
theorem ix_any {X : Cx} (K : PySem.W.Frag) (h : X.K = K) : IxR X (fun x y H Q => rIxL K x y H Q ∨ rIxT K x y H Q) := by
  subst h
  exact ix_or ix_list ix_tup
end LL

set_option Elab.async false
set_option linter.all false
set_option maxRecDepth 100000
set_option maxHeartbeats 4000000
/-! LSpec: kinds of data; what a node and a sheet are -/
namespace LL
open PySem PySem.Spec PyProof.Rows L2
def tyN : PyData → String
  | .none => "NoneType"
  | .bool _ => "bool"
  | .int _ => "int"
  | .str _ => "str"
  | .list _ => "list"
  | .tuple _ => "tuple"
  | .dict _ => "dict"
/-- what the written part says of the tuples and of the hash -/
structure KWOk [KW] (K : PySem.W.Frag) (w : World) : Prop where
  tp : ∀ a vs, KW.tp a vs → ∃ (o : Obj) (its : Array Value) (n : Nat), K.lookup a = some o ∧ o.cls = .type "tuple" ∧ o.data = .seq its n ∧ its.size ≤ sizeLine ∧ Vals vs its.toList
  hs : ∀ (P : Program) (ks : List Key), KW.hs ks = (tupleKind (mixKind P w)).hash ks
section
variable [KW]
theorem Tp.sq {K : PySem.W.Frag} {w : World} (W : KWOk K w) {M : List Addr} {H : Hp} {a : Addr} {vs : List V} (x : Tp M H a vs) : SqT K H a vs := by
  rcases x with ⟨_, h⟩ | h
  · exact SqT.of h
  · exact .inr (W.tp a vs h)
theorem Is.ty {K : PySem.W.Frag} {w : World} (W : KWOk K w) {M : List Addr} {H : Hp} : ∀ {d : PyData} {v : V}, Is M H d v → TyX K H v (.type (tyN d))
  | .none, v, x => by rw [x.nonE]; exact .base .non
  | .bool _, v, x => by rw [x.blE]; exact .base (.bl _)
  | .int _, v, x => by rw [x.intE]; exact .base (.int _)
  | .str _, v, x => by rw [x.strE]; exact .base (.str _)
  | .list _, v, x => by
    obtain ⟨a, vs, rfl, _, h, _⟩ := x.lstE
    exact .base (.lst h)
  | .tuple _, v, x => by
    obtain ⟨a, vs, rfl, h, _⟩ := x.tupE
    rcases h with ⟨_, h⟩ | h
    · exact .base (.tup h)
    · obtain ⟨o, its, n, h1, h2, _⟩ := W.tp a vs h
      exact .kTuple h1 h2
  | .dict _, v, x => by
    obtain ⟨_, a, rfl, _, h⟩ := x.dicE
    exact .base (.dK h)
end
/-- isinstance(v, one of the six built-in kinds) -/
def kitD (d : PyData) (n : String) : Bool := match d with
  | .bool _ => n == "bool" || n == "int"
  | d => n == tyN d
theorem kit_one {K : PySem.W.Frag} (d : PyData) (n : String) (h : n = "int" ∨ n = "bool" ∨ n = "str" ∨ n = "list" ∨ n = "tuple" ∨ n = "dict") : PySem.W.kitOne K (.type (tyN d)) (.type n) = some (kitD d n) := by
  refine kit_ty ?_
  have fin : ∀ t ∈ ["NoneType", "bool", "int", "str", "list", "tuple", "dict"], ∀ n ∈ ["int", "bool", "str", "list", "tuple", "dict"], kitB t n = some (if t = "bool" then (n == "bool" || n == "int") else n == t) := by decide +kernel
  have hn : n ∈ ["int", "bool", "str", "list", "tuple", "dict"] := by simpa using h
  cases d with
  | bool b => exact fin "bool" (by simp) n hn
  | none => exact fin "NoneType" (by simp) n hn
  | int i => exact fin "int" (by simp) n hn
  | str i => exact fin "str" (by simp) n hn
  | list i => exact fin "list" (by simp) n hn
  | tuple i => exact fin "tuple" (by simp) n hn
  | dict i => exact fin "dict" (by simp) n hn
theorem k_int {K : PySem.W.Frag} (d : PyData) : PySem.W.kitOne K (.type (tyN d)) (.type "int") = some (kitD d "int") := kit_one d "int" (by simp)
theorem k_bool {K : PySem.W.Frag} (d : PyData) : PySem.W.kitOne K (.type (tyN d)) (.type "bool") = some (kitD d "bool") := kit_one d "bool" (by simp)
theorem k_str {K : PySem.W.Frag} (d : PyData) : PySem.W.kitOne K (.type (tyN d)) (.type "str") = some (kitD d "str") := kit_one d "str" (by simp)
theorem k_list {K : PySem.W.Frag} (d : PyData) : PySem.W.kitOne K (.type (tyN d)) (.type "list") = some (kitD d "list") := kit_one d "list" (by simp)
theorem k_tuple {K : PySem.W.Frag} (d : PyData) : PySem.W.kitOne K (.type (tyN d)) (.type "tuple") = some (kitD d "tuple") := kit_one d "tuple" (by simp)
theorem k_dict {K : PySem.W.Frag} (d : PyData) : PySem.W.kitOne K (.type (tyN d)) (.type "dict") = some (kitD d "dict") := kit_one d "dict" (by simp)
/-! ### nodes -/
def isNum (lo hi : Int) : PyData → Bool
  | .int i => decide (lo ≤ i) && decide (i ≤ hi)
  | _ => false
/-- how many items a node of this word has -/
def nItems (w : Str) : Option Nat :=
  if w = "letter" then some 2 else if w = "no" then some 1 else if w = "and" then some 3 else if w = "or" then some 3 else if w = "if" then some 3 else if w = "box" then some 2 else none
def nodeB (boxed : Bool) (row : Int) : PyData → Bool
  | .tuple (.str w :: ps) => if nItems w = some (ps.length + 1) then (if w = "letter" then ps.all (isNum 0 7) else if w = "box" && !boxed then false else ps.all (isNum 0 (row - 1))) else false
  | _ => false
/-- a node as a key -/
def keyD : PyData → Key
  | .int i => .inl i
  | .str x => .inr x
  | _ => .inl 0
def keysD : PyData → List Key
  | .tuple ds => ds.map keyD
  | _ => []
/-- the first wrong row behind row at, whose earlier nodes are seen -/
def memK (k : List Key) (l : List (List Key)) : Bool := l.any fun x => decide (x = k)
def wrongF (most : Int) (boxed : Bool) : Int → List (List Key) → List PyData → Option Int
  | _, _, [] => none
  | at_, seen, d :: ds => if at_ < most then (if nodeB boxed at_ d then (if memK (keysD d) seen = true then some at_ else wrongF most boxed (at_ + 1) (seen ++ [keysD d]) ds) else some at_) else some at_
def wrongD (most : Int) (boxed : Bool) : PyData → Option Int
  | .list ds => wrongF most boxed 0 [] ds
  | _ => some (-1)
section
variable [KW]
theorem node_keys {boxed : Bool} {row : Int} {d : PyData} {v : V} {M : List Addr} {H : Hp} (x : Is M H d v) (h : nodeB boxed row d = true) : ∃ a, v = .ref a ∧ Tp M H a ((keysD d).map kV) := by
  unfold nodeB at h
  split at h
  · rename_i w ps
    obtain ⟨a, vs, rfl, ha, hs⟩ := x.tupE
    refine ⟨a, rfl, ?_⟩
    have hall : ∀ p ∈ ps, ∃ i, p = .int i := by
      have num : ∀ lo hi, ps.all (isNum lo hi) = true → ∀ p ∈ ps, ∃ i, p = PyData.int i := fun lo hi hh p hp => by
        have q := List.all_eq_true.mp hh p hp
        cases p with
        | int i => exact ⟨i, rfl⟩
        | _ => cases q
      split at h
      · split at h
        · exact num _ _ h
        · split at h
          · cases h
          · exact num _ _ h
      · cases h
    have key : ∀ (ds : List PyData) (vs : List V), (∀ p ∈ ds, ∃ i, p = PyData.int i) → IsDs M H ds vs → vs = (ds.map keyD).map kV := by
      intro ds
      induction ds with
      | nil => intro vs _ y; unfold IsDs at y; exact y
      | cons c ds ih =>
        intro vs hh y
        unfold IsDs at y
        obtain ⟨u, r, rfl, h1, h2⟩ := y
        obtain ⟨i, rfl⟩ := hh c (by simp)
        rw [h1.intE, ih r (fun p hp => hh p (by simp [hp])) h2]
        rfl
    unfold IsDs at hs
    obtain ⟨u, r, rfl, h1, h2⟩ := hs
    rw [h1.strE, key ps r hall h2] at ha
    exact ha
  · cases h
end
end LL

set_option Elab.async false
set_option linter.all false
set_option maxRecDepth 100000
set_option maxHeartbeats 4000000
/-! LMore: a written dict's get; comprehensions that map -/
namespace LL
open PySem PySem.Spec PyProof.Rows L2
variable [KW]
theorem SqT.adv {K : PySem.W.Frag} {H H' : Hp} {a : Addr} {xs : List V} (e : Adv [] H H') (h : SqT K H a xs) : SqT K H' a xs := by
  rcases h with (h | ⟨o, h⟩) | h
  · exact .inl (.inl (e.same _ _ h))
  · exact .inl (.inr ⟨o, e.same _ _ h⟩)
  · exact .inr h
theorem SqL.adv {K : PySem.W.Frag} {H H' : Hp} {a : Addr} {xs : List V} (e : Adv [] H H') (h : SqL K H a xs) : SqL K H' a xs := by
  rcases h with (h | ⟨o, h⟩) | h
  · exact .inl (.inl (e.same _ _ h))
  · exact .inl (.inr ⟨o, e.same _ _ h⟩)
  · exact .inr h
/-- d.get(k), d a dict of the text's top whose keys are texts -/
def tKGet (K : PySem.W.Frag) (w : World) (td ty : TE) : TE := fun σ H Q => td σ H fun x H1 => ∃ (d : Addr) (es : Array DictEntry) (n : Nat), x = .ref d ∧ KDict K w d es n ∧
  ty σ H1 fun y H2 => ∃ (z : Str) (r : Option Value) (v : V), y = .str z ∧ PySem.W.nsIn K d z = some r ∧ RelV v (r.getD .none) ∧ Q v H2
theorem pe_kget {X : Cx} {o e : Expr} {apos cpos : Pos} {td ty : TE} (ho : PE X o td) (he : PE X e ty) (m : M1 X o "get" apos e cpos) : PE X (.Call (.Attribute o "get" apos) [e] [] cpos) (tKGet X.K X.w td ty) := by
  refine ⟨fun pins s σ H Q I h => ?_⟩
  refine wpAny_Call_method m.base m.few m.line PySem.F.plainAttrs_dict PySem.F.slot_dict_get PySem.F.type_dict_get (thn (ho.run pins s σ H _ I h) fun u s1 q => ?_)
  obtain ⟨x, H1, I1, rx, d, es, n, ex, KD, q1⟩ := q
  subst ex
  cases (show u = Value.ref d from rx)
  refine ⟨kd_type KD I1, fun b eb => ?_, ?_⟩
  · cases eb
    exact ⟨_, I1.kIn _ _ KD.at_, rfl⟩
  · rw [m.trees]
    refine Calls.callWith_builtin rfl (Calls.evalArgs_plain (Calls.spliced_cons (thn (he.run pins s1 σ H1 _ I1 q1) fun iv s2 q2 => Calls.spliced_nil ?_)))
    obtain ⟨y, H2, I2, ry, z, r, v, ey, en, rv, q3⟩ := q2
    subst ey
    obtain ⟨t, rfl⟩ := ry
    have mo := PySem.W.mapOf_K (prog := X.prog) (w := X.w) I2.kIn KD.at_ KD.lit
    refine call_meetsIn PySem.F.slot_dict_get mo.typeIs PySem.F.entry_dict_get (PySem.F.args_dict_get_2 _ _) (meets_dict_get (strKind X.prog X.w) d (PySem.strKind_is X.prog X.w z t) KD.low) ⟨_, mo, ⟨v, H2, I2.tok _, ?_, q3⟩⟩
    rw [PySem.W.find_K KD.at_ en]
    exact rv
section
variable {K : PySem.W.Frag} {a D : Addr} {xs : List V} {g : TG} {te : TE} {vs : List Nat} {σ : L2.St} {H1 : Hp} {Qd : Hp → Prop}
theorem range_map_succ (ys : Nat → V) (i : Nat) : (List.range (i + 1)).map ys = (List.range i).map ys ++ [ys i] := by rw [List.range_succ, List.map_append]; rfl
/-- [e for x in t], t a tuple: e gives ys i at its i-th item -/
theorem lc_mapT (ys : Nat → V) (hD : H1 D = none) (src : SqT K H1 a xs) (hz : xs.length ≤ 1000000)
    (hs : ∀ (i : Nat) (x : V) (H : Hp) (acc : List V) (R : V → Hp → Prop), xs[i]? = some x → Adv [] H1 H → H D = some (.lst acc) → (∀ H4, H4 D = some (.lst acc) → Adv [] H1 H4 → R (ys i) H4) → g x (wipe σ vs) H fun σ2 H2 => wipe σ2 vs = wipe σ vs ∧ te σ2 H2 R)
    (hd : ∀ H, Adv [] H1 H → H D = some (.lst ((List.range xs.length).map ys)) → Qd H) :
    ∃ W : Nat → Nat → Hp → Prop, (∃ m, W 0 m (upd H1 D (.lst []))) ∧ ∀ i m H, W i m H →
      ((Itt K a).stop i H ∧ Qd H) ∨ ((Itt K a).go i H ∧ ∃ Nx : Hp → Prop, (∀ H', Nx H' → ∃ m', m' < m ∧ W (i + 1) m' H') ∧ ∀ x H', (Itt K a).yld i H x H' → g x (wipe σ vs) H' fun σ2 H2 => wipe σ2 vs = wipe σ vs ∧ tYes σ2 H2 fun b H3 =>
        if b = true then te σ2 H3 fun y H4 => ∃ acc, H4 D = some (.lst acc) ∧ acc.length < sizeLine ∧ Nx (upd H4 D (.lst (acc ++ [y]))) else Nx H3) := by
  refine lc_tup (K := K) (a := a) (xs := xs) (tt := tYes) (fun i H => Adv [] H1 H ∧ H D = some (.lst ((List.range i).map ys))) ⟨Adv.new hD, upd_same⟩ (fun i H _ p => SqT.adv p.1 src) (fun i x H hx p => ?_) (fun H p => hd H p.1 p.2)
  have hi : i < xs.length := (List.getElem?_eq_some_iff.mp hx).1
  refine hs i x H _ (fun y H4 => ∃ acc, H4 D = some (.lst acc) ∧ acc.length < sizeLine ∧ Adv [] H1 (upd H4 D (.lst (acc ++ [y]))) ∧ (upd H4 D (.lst (acc ++ [y]))) D = some (.lst ((List.range (i + 1)).map ys))) hx p.1 p.2 (fun H4 e4 a4 => ⟨_, e4, ?_, Adv.mut a4 hD, ?_⟩)
  · rw [List.length_map, List.length_range, sizeLine_eq]
    omega
  · rw [upd_same, range_map_succ]
theorem lc_dataR {M : List Addr} {n : Nat} (ds : List PyData) (hn : n = ds.length) (hD : H1 D = none) (hz : n ≤ 1000000)
    (hs : ∀ (i : Nat) (d : PyData) (H : Hp) (acc : List V) (R : V → Hp → Prop), ds[i]? = some d → Adv [] H1 H → H D = some (.lst acc) → (∀ y H4, H4 D = some (.lst acc) → Adv [D] H H4 → Is (D :: M) H4 d y → R y H4) → g (.int (0 + (i : Nat))) (wipe σ vs) H fun σ2 H2 => wipe σ2 vs = wipe σ vs ∧ te σ2 H2 R)
    (hd : ∀ H acc, Adv [] H1 H → H D = some (.lst acc) → IsDs (D :: M) H ds acc → Qd H) :
    ∃ W : Nat → Nat → Hp → Prop, (∃ m, W 0 m (upd H1 D (.lst []))) ∧ ∀ i m H, W i m H →
      ((Itr 0 n).stop i H ∧ Qd H) ∨ ((Itr 0 n).go i H ∧ ∃ Nx : Hp → Prop, (∀ H', Nx H' → ∃ m', m' < m ∧ W (i + 1) m' H') ∧ ∀ x H', (Itr 0 n).yld i H x H' → g x (wipe σ vs) H' fun σ2 H2 => wipe σ2 vs = wipe σ vs ∧ tYes σ2 H2 fun b H3 =>
        if b = true then te σ2 H3 fun y H4 => ∃ acc, H4 D = some (.lst acc) ∧ acc.length < sizeLine ∧ Nx (upd H4 D (.lst (acc ++ [y]))) else Nx H3) := by
  refine lc_range (lo := 0) (n := n) (tt := tYes) (fun i H => Adv [] H1 H ∧ ∃ acc, H D = some (.lst acc) ∧ IsDs (D :: M) H (ds.take i) acc) ⟨Adv.new hD, [], upd_same, .nil⟩ (fun i H hx p => ?_) (fun H p => ?_)
  · have hi : i < ds.length := by
      rw [← hn]
      exact hx
    obtain ⟨a1, acc, hacc, hds⟩ := p
    have hlen := hds.len
    rw [List.length_take, Nat.min_eq_left (Nat.le_of_lt hi)] at hlen
    refine hs i (ds[i]) H acc (fun y H4 => ∃ acc, H4 D = some (.lst acc) ∧ acc.length < sizeLine ∧ Adv [] H1 (upd H4 D (.lst (acc ++ [y]))) ∧ ∃ acc', (upd H4 D (.lst (acc ++ [y]))) D = some (.lst acc') ∧ IsDs (D :: M) (upd H4 D (.lst (acc ++ [y]))) (ds.take (i + 1)) acc')
      (List.getElem?_eq_getElem hi) a1 hacc (fun y H4 e4 a4 hy => ⟨acc, e4, by rw [sizeLine_eq]; omega, ?_, acc ++ [y], upd_same, ?_⟩)
    · exact Adv.mut (((a1.more (N := [D]) (by simp)).trans a4).drop hD) hD
    · have e1 : ds.take (i + 1) = ds.take i ++ [ds[i]] := by rw [List.take_succ, List.getElem?_eq_getElem hi]; rfl
      rw [e1]
      have m1 : ∀ b ∈ [D], b ∈ D :: M := fun b hb => by simp at hb; simp [hb]
      exact ((hds.adv (a4.more m1)).adv (Adv.set (by simp))).app (IsDs.one (hy.adv (Adv.set (by simp))))
  · obtain ⟨a1, acc, hacc, hds⟩ := p
    rw [hn, List.take_length] at hds
    exact hd H acc a1 hacc hds
theorem lc_dataL {M : List Addr} (ds : List PyData) (hn : xs.length = ds.length) (hD : H1 D = none) (src : SqL K H1 a xs) (hz : xs.length ≤ 1000000)
    (hs : ∀ (i : Nat) (x : V) (d : PyData) (H : Hp) (acc : List V) (R : V → Hp → Prop), xs[i]? = some x → ds[i]? = some d → Adv [] H1 H → H D = some (.lst acc) → (∀ y H4, H4 D = some (.lst acc) → Adv [D] H H4 → Is (D :: M) H4 d y → R y H4) → g x (wipe σ vs) H fun σ2 H2 => wipe σ2 vs = wipe σ vs ∧ te σ2 H2 R)
    (hd : ∀ H acc, Adv [] H1 H → H D = some (.lst acc) → IsDs (D :: M) H ds acc → Qd H) :
    ∃ W : Nat → Nat → Hp → Prop, (∃ m, W 0 m (upd H1 D (.lst []))) ∧ ∀ i m H, W i m H →
      ((Itl K a).stop i H ∧ Qd H) ∨ ((Itl K a).go i H ∧ ∃ Nx : Hp → Prop, (∀ H', Nx H' → ∃ m', m' < m ∧ W (i + 1) m' H') ∧ ∀ x H', (Itl K a).yld i H x H' → g x (wipe σ vs) H' fun σ2 H2 => wipe σ2 vs = wipe σ vs ∧ tYes σ2 H2 fun b H3 =>
        if b = true then te σ2 H3 fun y H4 => ∃ acc, H4 D = some (.lst acc) ∧ acc.length < sizeLine ∧ Nx (upd H4 D (.lst (acc ++ [y]))) else Nx H3) := by
  refine lc_list (K := K) (a := a) (xs := xs) (tt := tYes) (fun i H => Adv [] H1 H ∧ ∃ acc, H D = some (.lst acc) ∧ IsDs (D :: M) H (ds.take i) acc) ⟨Adv.new hD, [], upd_same, .nil⟩ (fun i H _ p => SqL.adv p.1 src) (fun i x H hx p => ?_) (fun H p => ?_)
  · have hi : i < ds.length := by
      rw [← hn]
      exact (List.getElem?_eq_some_iff.mp hx).1
    obtain ⟨a1, acc, hacc, hds⟩ := p
    have hlen := hds.len
    rw [List.length_take, Nat.min_eq_left (Nat.le_of_lt hi)] at hlen
    refine hs i x (ds[i]) H acc (fun y H4 => ∃ acc, H4 D = some (.lst acc) ∧ acc.length < sizeLine ∧ Adv [] H1 (upd H4 D (.lst (acc ++ [y]))) ∧ ∃ acc', (upd H4 D (.lst (acc ++ [y]))) D = some (.lst acc') ∧ IsDs (D :: M) (upd H4 D (.lst (acc ++ [y]))) (ds.take (i + 1)) acc')
      hx (List.getElem?_eq_getElem hi) a1 hacc (fun y H4 e4 a4 hy => ⟨acc, e4, by rw [sizeLine_eq]; omega, ?_, acc ++ [y], upd_same, ?_⟩)
    · exact Adv.mut (((a1.more (N := [D]) (by simp)).trans a4).drop hD) hD
    · have e1 : ds.take (i + 1) = ds.take i ++ [ds[i]] := by rw [List.take_succ, List.getElem?_eq_getElem hi]; rfl
      rw [e1]
      have m1 : ∀ b ∈ [D], b ∈ D :: M := fun b hb => by simp at hb; simp [hb]
      exact ((hds.adv (a4.more m1)).adv (Adv.set (by simp))).app (IsDs.one (hy.adv (Adv.set (by simp))))
  · obtain ⟨a1, acc, hacc, hds⟩ := p
    rw [hn, List.take_length] at hds
    exact hd H acc a1 hacc hds
theorem lc_dataT {M : List Addr} (ds : List PyData) (hn : xs.length = ds.length) (hD : H1 D = none) (src : SqT K H1 a xs) (hz : xs.length ≤ 1000000)
    (hs : ∀ (i : Nat) (x : V) (d : PyData) (H : Hp) (acc : List V) (R : V → Hp → Prop), xs[i]? = some x → ds[i]? = some d → Adv [] H1 H → H D = some (.lst acc) → (∀ y H4, H4 D = some (.lst acc) → Adv [D] H H4 → Is (D :: M) H4 d y → R y H4) → g x (wipe σ vs) H fun σ2 H2 => wipe σ2 vs = wipe σ vs ∧ te σ2 H2 R)
    (hd : ∀ H acc, Adv [] H1 H → H D = some (.lst acc) → IsDs (D :: M) H ds acc → Qd H) :
    ∃ W : Nat → Nat → Hp → Prop, (∃ m, W 0 m (upd H1 D (.lst []))) ∧ ∀ i m H, W i m H →
      ((Itt K a).stop i H ∧ Qd H) ∨ ((Itt K a).go i H ∧ ∃ Nx : Hp → Prop, (∀ H', Nx H' → ∃ m', m' < m ∧ W (i + 1) m' H') ∧ ∀ x H', (Itt K a).yld i H x H' → g x (wipe σ vs) H' fun σ2 H2 => wipe σ2 vs = wipe σ vs ∧ tYes σ2 H2 fun b H3 =>
        if b = true then te σ2 H3 fun y H4 => ∃ acc, H4 D = some (.lst acc) ∧ acc.length < sizeLine ∧ Nx (upd H4 D (.lst (acc ++ [y]))) else Nx H3) := by
  refine lc_tup (K := K) (a := a) (xs := xs) (tt := tYes) (fun i H => Adv [] H1 H ∧ ∃ acc, H D = some (.lst acc) ∧ IsDs (D :: M) H (ds.take i) acc) ⟨Adv.new hD, [], upd_same, .nil⟩ (fun i H _ p => SqT.adv p.1 src) (fun i x H hx p => ?_) (fun H p => ?_)
  · have hi : i < ds.length := by
      rw [← hn]
      exact (List.getElem?_eq_some_iff.mp hx).1
    obtain ⟨a1, acc, hacc, hds⟩ := p
    have hlen := hds.len
    rw [List.length_take, Nat.min_eq_left (Nat.le_of_lt hi)] at hlen
    refine hs i x (ds[i]) H acc (fun y H4 => ∃ acc, H4 D = some (.lst acc) ∧ acc.length < sizeLine ∧ Adv [] H1 (upd H4 D (.lst (acc ++ [y]))) ∧ ∃ acc', (upd H4 D (.lst (acc ++ [y]))) D = some (.lst acc') ∧ IsDs (D :: M) (upd H4 D (.lst (acc ++ [y]))) (ds.take (i + 1)) acc')
      hx (List.getElem?_eq_getElem hi) a1 hacc (fun y H4 e4 a4 hy => ⟨acc, e4, by rw [sizeLine_eq]; omega, ?_, acc ++ [y], upd_same, ?_⟩)
    · exact Adv.mut (((a1.more (N := [D]) (by simp)).trans a4).drop hD) hD
    · have e1 : ds.take (i + 1) = ds.take i ++ [ds[i]] := by rw [List.take_succ, List.getElem?_eq_getElem hi]; rfl
      rw [e1]
      have m1 : ∀ b ∈ [D], b ∈ D :: M := fun b hb => by simp at hb; simp [hb]
      exact ((hds.adv (a4.more m1)).adv (Adv.set (by simp))).app (IsDs.one (hy.adv (Adv.set (by simp))))
  · obtain ⟨a1, acc, hacc, hds⟩ := p
    rw [hn, List.take_length] at hds
    exact hd H acc a1 hacc hds
theorem range_filt_succ (ys : Nat → V) (c : Nat → Bool) (i : Nat) : ((List.range (i + 1)).filter c).map ys = ((List.range i).filter c).map ys ++ (if c i = true then [ys i] else []) := by
  rw [List.range_succ, List.filter_append, List.map_append]
  congr 1
  cases h : c i <;> simp [h]
/-- [e for x in t if c], t a tuple -/
theorem lc_filtT {tt : TT} (ys : Nat → V) (c : Nat → Bool) (hD : H1 D = none) (src : SqT K H1 a xs) (hz : xs.length ≤ 1000000)
    (hs : ∀ (i : Nat) (x : V) (H : Hp) (acc : List V) (R : V → Hp → Prop) (R0 : Hp → Prop), xs[i]? = some x → Adv [] H1 H → H D = some (.lst acc) → (c i = true → ∀ H4, H4 D = some (.lst acc) → Adv [] H1 H4 → R (ys i) H4) →
      (c i = false → ∀ H4, H4 D = some (.lst acc) → Adv [] H1 H4 → R0 H4) → g x (wipe σ vs) H fun σ2 H2 => wipe σ2 vs = wipe σ vs ∧ tt σ2 H2 fun b H3 => if b = true then te σ2 H3 R else R0 H3)
    (hd : ∀ H, Adv [] H1 H → H D = some (.lst (((List.range xs.length).filter c).map ys)) → Qd H) :
    ∃ W : Nat → Nat → Hp → Prop, (∃ m, W 0 m (upd H1 D (.lst []))) ∧ ∀ i m H, W i m H →
      ((Itt K a).stop i H ∧ Qd H) ∨ ((Itt K a).go i H ∧ ∃ Nx : Hp → Prop, (∀ H', Nx H' → ∃ m', m' < m ∧ W (i + 1) m' H') ∧ ∀ x H', (Itt K a).yld i H x H' → g x (wipe σ vs) H' fun σ2 H2 => wipe σ2 vs = wipe σ vs ∧ tt σ2 H2 fun b H3 =>
        if b = true then te σ2 H3 fun y H4 => ∃ acc, H4 D = some (.lst acc) ∧ acc.length < sizeLine ∧ Nx (upd H4 D (.lst (acc ++ [y]))) else Nx H3) := by
  refine lc_tup (K := K) (a := a) (xs := xs) (tt := tt) (fun i H => Adv [] H1 H ∧ H D = some (.lst (((List.range i).filter c).map ys))) ⟨Adv.new hD, upd_same⟩ (fun i H _ p => SqT.adv p.1 src) (fun i x H hx p => ?_) (fun H p => hd H p.1 p.2)
  have hi : i < xs.length := (List.getElem?_eq_some_iff.mp hx).1
  refine hs i x H _ (fun y H4 => ∃ acc, H4 D = some (.lst acc) ∧ acc.length < sizeLine ∧ Adv [] H1 (upd H4 D (.lst (acc ++ [y]))) ∧ (upd H4 D (.lst (acc ++ [y]))) D = some (.lst (((List.range (i + 1)).filter c).map ys)))
    (fun H3 => Adv [] H1 H3 ∧ H3 D = some (.lst (((List.range (i + 1)).filter c).map ys))) hx p.1 p.2 (fun hc H4 e4 a4 => ⟨_, e4, ?_, Adv.mut a4 hD, ?_⟩) (fun hc H4 e4 a4 => ⟨a4, ?_⟩)
  · have h1 := List.length_filter_le c (List.range i)
    rw [List.length_range] at h1
    rw [List.length_map, sizeLine_eq]
    omega
  · rw [upd_same, range_filt_succ, if_pos hc]
  · rw [e4, range_filt_succ, if_neg (by rw [hc]; decide), List.append_nil]
end
theorem range_map_list {ds : List PyData} (f : PyData → Bool) : ((List.range ds.length).map fun i => V.bl (f (ds.getD i .none))) = (ds.map f).map V.bl := by
  apply List.ext_getElem
  · simp
  · intro i h1 h2
    have h : i < ds.length := by simpa using h1
    simp [h]
/-! ### dicts whose keys are tuples -/
theorem val_mem (kvs : List (List Key × V)) (k : List Key) : (valV kvs k).isSome = memK k (kvs.map (·.1)) := by
  unfold valV memK
  rw [Option.isSome_map, List.any_map]
  induction kvs with
  | nil => rfl
  | cons p r ih =>
    rw [List.find?_cons, List.any_cons]
    show (match decide (p.1 = k) with | true => some p | false => r.find? fun kv => decide (kv.1 = k)).isSome = (decide (p.1 = k) || r.any _)
    cases decide (p.1 = k) with
    | true => rfl
    | false => rw [Bool.false_or]; exact ih
theorem put_new (kvs : List (List Key × V)) (k : List Key) (v : V) (h : memK k (kvs.map (·.1)) = false) : putK kvs k v = kvs ++ [(k, v)] := by
  unfold putK
  have e : (kvs.any fun kv => decide (kv.1 = k)) = false := by
    unfold memK at h
    rw [List.any_map] at h
    exact h
  rw [if_neg (by rw [e]; decide)]
/-! ### for i, x in enumerate(list), the list left as it is -/
theorem for_enum {K : PySem.W.Frag} {a : Addr} {xs : List V} {g : TG} {tb : TS} {D : Ends} {σ : L2.St} {H : Hp} (Pv : Nat → L2.St → Hp → Prop) (h0 : Pv 0 σ H) (hl : ∀ i σ H, i ≤ xs.length → Pv i σ H → H a = some (.lst xs))
    (hs : ∀ (i : Nat) (x : V) (T : Addr) (σ : L2.St) (H : Hp), xs[i]? = some x → Pv i σ H → H T = none → g (.ref T) σ (upd H T (.tup [.int (i : Nat), x])) fun σ2 H2 => tb { D with nx := Pv (i + 1), ct := Pv (i + 1), bk := D.nx } σ2 H2) (hd : ∀ σ H, Pv xs.length σ H → D.nx σ H) :
    ∃ W : Nat → Nat → L2.St → Hp → Prop, (∃ m, W 0 m σ H) ∧ ∀ i m σ H, W i m σ H →
      ((Ite K a).stop i H ∧ D.nx σ H) ∨ ((Ite K a).go i H ∧ ∃ N : L2.St → Hp → Prop, (∀ σ' H', N σ' H' → ∃ m', m' < m ∧ W (i + 1) m' σ' H') ∧ ∀ x H', (Ite K a).yld i H x H' → g x σ H' fun σ2 H2 => tb { D with nx := N, ct := N, bk := D.nx } σ2 H2) := by
  refine ⟨fun i m σ H => i + m = xs.length ∧ Pv i σ H, ⟨xs.length, by omega, h0⟩, ?_⟩
  rintro i m σ H ⟨em, p⟩
  have q : SqL K H a xs := SqL.of (hl i σ H (by omega) p)
  by_cases hlt : i < xs.length
  · refine .inr ⟨⟨xs, xs[i], q, List.getElem?_eq_getElem hlt⟩, Pv (i + 1), fun σ' H' p' => ⟨m - 1, by omega, by omega, p'⟩, fun x H' y => ?_⟩
    obtain ⟨T, y0, rfl, nT, rfl, f⟩ := y
    exact hs i y0 T σ H (f xs q) p nT
  · have e : i = xs.length := by omega
    subst e
    exact .inl ⟨⟨xs, q, Nat.le_refl _⟩, hd σ H p⟩
theorem not_mem_new {M : List Addr} {H : Hp} {p : Addr} (h : ∀ b ∈ M, H b ≠ none) (n : H p = none) : p ∉ M := fun z => h p z n
/-! ### ways that are never gone -/
def eNo : TE := fun _ _ _ => False
def cNo : TT := fun _ _ _ => False
theorem pe_never {X : Cx} {e : Expr} : PE X e eNo := ⟨fun _ _ _ _ _ _ h => h.elim⟩
theorem pt_never {X : Cx} {e : Expr} : PT X e cNo := ⟨fun _ _ _ _ _ _ h => h.elim⟩
/-- a comprehension over an empty dict that is locked -/
theorem lc_keys0 {d D : Addr} {o : Obj} {g : TG} {tt : TT} {te : TE} {vs : List Nat} {σ : L2.St} {H1 : Hp} {Qd : Hp → Prop} (hd0 : H1 d = some (.frz o (.dK []))) (hD : H1 D = none) (hd : Qd (upd H1 D (.lst []))) :
    ∃ W : Nat → Nat → Hp → Prop, (∃ m, W 0 m (upd H1 D (.lst []))) ∧ ∀ i m H, W i m H →
      ((Itk d o []).stop i H ∧ Qd H) ∨ ((Itk d o []).go i H ∧ ∃ Nx : Hp → Prop, (∀ H', Nx H' → ∃ m', m' < m ∧ W (i + 1) m' H') ∧ ∀ x H', (Itk d o []).yld i H x H' → g x (wipe σ vs) H' fun σ2 H2 => wipe σ2 vs = wipe σ vs ∧ tt σ2 H2 fun b H3 =>
        if b = true then te σ2 H3 fun y H4 => ∃ acc, H4 D = some (.lst acc) ∧ acc.length < sizeLine ∧ Nx (upd H4 D (.lst (acc ++ [y]))) else Nx H3) := by
  refine ⟨fun i m H => H = upd H1 D (.lst []), ⟨0, rfl⟩, ?_⟩
  rintro i m H rfl
  exact .inl ⟨⟨by rw [upd_ne (ne_of_none hd0 hD)]; exact hd0, Nat.zero_le _⟩, hd⟩
/-- a loop over an empty dict that is locked -/
theorem for_keys0 {d : Addr} {o : Obj} {g : TG} {tb : TS} {D : Ends} {σ : L2.St} {H1 : Hp} (hd0 : H1 d = some (.frz o (.dK []))) (hd : D.nx σ H1) :
    ∃ W : Nat → Nat → L2.St → Hp → Prop, (∃ m, W 0 m σ H1) ∧ ∀ i m σ H, W i m σ H →
      ((Itk d o []).stop i H ∧ D.nx σ H) ∨ ((Itk d o []).go i H ∧ ∃ N : L2.St → Hp → Prop, (∀ σ' H', N σ' H' → ∃ m', m' < m ∧ W (i + 1) m' σ' H') ∧ ∀ x H', (Itk d o []).yld i H x H' → g x σ H' fun σ2 H2 => tb { D with nx := N, ct := N, bk := D.nx } σ2 H2) := by
  refine ⟨fun i m σ' H => σ' = σ ∧ H = H1, ⟨0, rfl, rfl⟩, ?_⟩
  rintro i m σ' H ⟨rfl, rfl⟩
  exact .inl ⟨⟨hd0, Nat.zero_le _⟩, hd⟩
theorem IsDs.last {M : List Addr} {H : Hp} : ∀ {ds : List PyData} {d : PyData} {vs : List V}, IsDs M H (ds ++ [d]) vs → ∃ ws v, vs = ws ++ [v] ∧ IsDs M H ds ws ∧ Is M H d v
  | [], d, vs, x => by
    have x' : IsDs M H [d] vs := x
    unfold IsDs at x'
    obtain ⟨v, r, rfl, h1, h2⟩ := x'
    unfold IsDs at h2
    subst h2
    exact ⟨[], v, rfl, .nil, h1⟩
  | c :: ds, d, vs, x => by
    have x' : IsDs M H (c :: (ds ++ [d])) vs := x
    unfold IsDs at x'
    obtain ⟨v, r, rfl, h1, h2⟩ := x'
    obtain ⟨ws, u, rfl, h3, h4⟩ := h2.last
    exact ⟨v :: ws, u, rfl, .cons h1 h3, h4⟩
theorem Is.pair {M : List Addr} {H : Hp} {d e : PyData} {v : V} (x : Is M H (.tuple [d, e]) v) : ∃ t v1 v2, v = .ref t ∧ Tp M H t [v1, v2] ∧ Is M H d v1 ∧ Is M H e v2 := by
  obtain ⟨t, vs, rfl, ht, hs⟩ := x.tupE
  unfold IsDs at hs
  obtain ⟨v1, r, rfl, h1, h2⟩ := hs
  unfold IsDs at h2
  obtain ⟨v2, r2, rfl, h3, h4⟩ := h2
  unfold IsDs at h4
  subst h4
  exact ⟨t, v1, v2, rfl, ht, h1, h3⟩
theorem IsDs.of_get {M : List Addr} {H : Hp} : ∀ {ds : List PyData} {vs : List V}, vs.length = ds.length → (∀ (i : Nat) d v, ds[i]? = some d → vs[i]? = some v → Is M H d v) → IsDs M H ds vs
  | [], vs, hl, h => by
    have : vs = [] := List.length_eq_zero_iff.mp hl
    subst this
    exact .nil
  | d :: ds, [], hl, h => by simp at hl
  | d :: ds, v :: vs, hl, h => .cons (h 0 d v rfl rfl) (IsDs.of_get (by simpa using hl) fun i d' v' h1 h2 => h (i + 1) d' v' (by simpa using h1) (by simpa using h2))
end LL

set_option Elab.async false
set_option linter.all false
set_option maxRecDepth 100000
set_option maxHeartbeats 4000000
/-! LBook: a book of rows (a list, and the dict of its nodes), a stream beside it; written data -/
namespace LL
open PySem PySem.Spec PyProof.Rows L2
variable [KW]
def keyDt : Key → PyData
  | .inl i => .int i
  | .inr x => .str x
theorem ks_data {M : List Addr} {H : Hp} : ∀ ks : List Key, IsDs M H (ks.map keyDt) (ks.map kV)
  | [] => .nil
  | .inl i :: ks => .cons .int (ks_data ks)
  | .inr x :: ks => .cons .str (ks_data ks)
theorem sz_key (k : Key) : sz (keyDt k) = 1 := by cases k <;> (unfold keyDt sz; rfl)
theorem dep_key (k : Key) : dep (keyDt k) = 0 := by cases k <;> (unfold keyDt dep; rfl)
theorem sz_tup (ds : List PyData) : sz (.tuple ds) = 1 + szL ds := by rw [sz]
theorem dep_tup (ds : List PyData) : dep (.tuple ds) = 1 + depL ds := by rw [dep]
theorem sz_lst (ds : List PyData) : sz (.list ds) = 1 + szL ds := by rw [sz]
theorem dep_lst (ds : List PyData) : dep (.list ds) = 1 + depL ds := by rw [dep]
theorem depL_cons (d : PyData) (ds : List PyData) : depL (d :: ds) = max (dep d) (depL ds) := by rw [depL]
theorem depL_nil : depL [] = 0 := by rw [depL]
theorem ks_sz : ∀ ks : List Key, szL (ks.map keyDt) = ks.length
  | [] => szL_nil
  | k :: ks => by rw [List.map_cons, szL_cons, ks_sz ks, List.length_cons, sz_key]; omega
theorem ks_dep : ∀ ks : List Key, depL (ks.map keyDt) = 0
  | [] => depL_nil
  | k :: ks => by rw [List.map_cons, depL_cons, ks_dep ks, dep_key]; rfl
/-- a datum as small as a node -/
def Small (d : PyData) : Prop := sz d ≤ 4 ∧ dep d ≤ 1 ∧ ∃ ks : List Key, d = .tuple (ks.map keyDt)
structure BookAt (M : List Addr) (H : Hp) (b0 b1 : Addr) (n : Nat) : Prop where
  rows : ∃ (rs : List V) (ds : List PyData) (kvs : List (List Key × V)), H b0 = some (.lst rs) ∧ rs.length = n ∧ IsDs M H ds rs ∧ (∀ d ∈ ds, Small d) ∧ H b1 = some (.dT kvs) ∧ kvs.length ≤ n ∧ ∀ p ∈ kvs, ∃ i : Nat, p.2 = .int i ∧ i < n
structure Bk (M : List Addr) (H : Hp) (s bk b0 b1 : Addr) (n : Nat) : Prop where
  str : StrAt M H s
  hbk : H bk = some (.lst [.ref b0, .ref b1])
  ms : s ∈ M
  m0 : b0 ∈ M
  m1 : b1 ∈ M
  kM : bk ∉ M
  ns0 : s ≠ b0
  ns1 : s ≠ b1
  n01 : b0 ≠ b1
  al : ∀ b ∈ M, H b ≠ none
  book : BookAt M H b0 b1 n
section
variable {M N : List Addr} {H H' : Hp} {s bk b0 b1 p : Addr} {n : Nat}
theorem alloc_adv (h : ∀ b ∈ M, H b ≠ none) (a : Adv N H H') (hN : ∀ b ∈ N, H' b ≠ none) : ∀ b ∈ M, H' b ≠ none := fun b hb => by
  by_cases e : b ∈ N
  · exact hN b e
  · cases q : H b with
    | none => exact absurd q (h b hb)
    | some o => rw [a b o e q]; simp
theorem Bk.adv (x : Bk M H s bk b0 b1 n) (a : Adv N H H') (h0 : b0 ∉ N) (h1 : b1 ∉ N) (hn : ∀ b ∈ N, b ∈ M) (hs : StrAt M H' s) (hal : ∀ b ∈ N, H' b ≠ none) : Bk M H' s bk b0 b1 n := by
  obtain ⟨x1, x2, x3, x4, x5, x6, x7, x8, x9, xa, rs, ds, kvs, r1, r2, r3, r4, r5, r6, r7⟩ := x
  exact ⟨hs, a _ _ (fun z => x6 (hn _ z)) x2, x3, x4, x5, x6, x7, x8, x9, alloc_adv xa a hal, ⟨rs, ds, kvs, a _ _ h0 r1, r2, r3.adv (a.more hn), r4, a _ _ h1 r5, r6, r7⟩⟩
theorem Bk.same (x : Bk M H s bk b0 b1 n) (a : Adv [] H H') : Bk M H' s bk b0 b1 n := x.adv a (by simp) (by simp) (by simp) (x.str.same a) (by simp)
theorem Bk.next (x : Bk M H s bk b0 b1 n) (a : Adv [s] H H') (hs : StrAt M H' s) : Bk M H' s bk b0 b1 n := x.adv a (by simpa using x.ns0.symm) (by simpa using x.ns1.symm) (by simpa using x.ms) hs (by simpa using hs.here)
theorem Bk.fresh (x : Bk M H s bk b0 b1 n) (h : H p = none) {o : HO} : Bk (p :: M) (upd H p o) s bk b0 b1 n := by
  have y := x.same (Adv.new (o := o) h)
  obtain ⟨_, _, _, _, _, _, _, _, _, _, rs, ds, kvs, r1, r2, r3, r4, r5, r6, r7⟩ := id x
  obtain ⟨x1, x2, x3, x4, x5, x6, x7, x8, x9, xa, _⟩ := y
  obtain ⟨z1, z2, z3, z4, z5, z6, z7, z8, z9, za, _⟩ := id x
  have a : Adv [] H (upd H p o) := Adv.new h
  exact ⟨(z1.fresh h).same a, x2, by simp [x3], by simp [x4], by simp [x5], fun z => (List.mem_cons.mp z).elim (ne_of_none z2 h) x6, x7, x8, x9,
    fun b hb => by
      rcases List.mem_cons.mp hb with e | hb
      · rw [e, upd_same]; simp
      · exact xa b hb, ⟨rs, ds, kvs, a.same _ _ r1, r2, (r3.fresh h).adv (a.more (by simp)), r4, a.same _ _ r5, r6, r7⟩⟩
theorem Bk.less (x : Bk (p :: M) H s bk b0 b1 n) (h1 : s ∈ M) (h2 : b0 ∈ M) (h3 : b1 ∈ M) : Bk M H s bk b0 b1 n := by
  obtain ⟨x1, x2, x3, x4, x5, x6, x7, x8, x9, xa, rs, ds, kvs, r1, r2, r3, r4, r5, r6, r7⟩ := x
  have m : ∀ b ∈ M, b ∈ p :: M := fun b hb => List.mem_cons_of_mem _ hb
  exact ⟨x1.less m, x2, h1, h2, h3, fun z => x6 (m _ z), x7, x8, x9, fun b hb => xa b (m b hb), ⟨rs, ds, kvs, r1, r2, r3.less m, r4, r5, r6, r7⟩⟩
end
theorem Bk.put {M : List Addr} {H : Hp} {s bk b0 b1 D : Addr} {n : Nat} {o : HO} (x : Bk (D :: M) H s bk b0 b1 n) (h1 : D ≠ s) (h2 : D ≠ b0) (h3 : D ≠ b1) : Bk (D :: M) (upd H D o) s bk b0 b1 n :=
  x.adv (N := [D]) (Adv.set (by simp)) (by simpa using h2.symm) (by simpa using h3.symm) (by simp) (x.str.adv (N := [D]) (Adv.set (by simp)) (by simpa using h1.symm) (by simp)) (fun b hb => by rw [List.mem_singleton.mp hb, upd_same]; simp)
theorem Adv.one {s b0 b1 : Addr} {H H' : Hp} (a : Adv [s] H H') : Adv [s, b0, b1] H H' := a.more (by simp)
theorem Adv.two {s b0 b1 : Addr} {H H' : Hp} (a : Adv [b0, b1] H H') : Adv [s, b0, b1] H H' := a.more (by simp)
theorem Adv.nil {N : List Addr} {H H' : Hp} (a : Adv [] H H') : Adv N H H' := a.more (by simp)
/-! ### written data: what a display gives -/
def DE (te : TE) (σ : L2.St) (d : PyData) : Prop := ∀ (M : List Addr) (H : Hp) (Q : VK), (∀ b ∈ M, H b ≠ none) → (∀ v H', Is M H' d v → Adv [] H H' → Q v H') → te σ H Q
def DA (ta : TA) (σ : L2.St) (ds : List PyData) : Prop := ∀ (M : List Addr) (H : Hp) (Q : List V → Hp → Prop), (∀ b ∈ M, H b ≠ none) → (∀ vs H', IsDs M H' ds vs → Adv [] H H' → Q vs H') → ta σ H Q
section
variable {σ : L2.St} {te : TE} {ta : TA} {d : PyData} {ds : List PyData}
end
end LL

set_option Elab.async false
set_option linter.all false
set_option maxRecDepth 100000
set_option maxHeartbeats 4000000
namespace LL
open PySem PySem.Spec PyProof.Rows L2
variable [KW]
theorem sz1_int (i : Int) : sz (.int i) = 1 := by unfold sz; rfl
theorem dep1_int (i : Int) : dep (.int i) = 0 := by unfold dep; rfl
end LL

set_option Elab.async false
set_option linter.all false
set_option maxRecDepth 100000
set_option maxHeartbeats 2000000
/-! LExc: raising with the context kept, clauses with a name, what is asked of a held error -/
namespace LL
open PySem PySem.Spec PyProof.Rows L2
/-! ### defs -/
section
variable {P : Program} {w : World} {K : PySem.W.Frag} {mg : Str → Option Value} {base : Heap}
theorem okXN {x qual : Str} {st : Stmt} {f : Addr} {fd : FuncData} {N ps : List Str} {k : Nat} {sp : Sp} (F : Fun K x qual st f fd) (S : FnScope N ps (defScope st))
    (len : ∀ vs H Q E, sp vs H Q E → vs.length = ps.length)
    (hb : ∀ (cdv : Value) (A : Around) (outer : List Env) (s : Shared) (H : Hp) (vs : List V) (Q : VK) (E : XK), Room k (A.deeper (envOfC qual (defScope st) s.heap.objs.size f cdv)) → sp vs H Q E →
      ∃ t, PSs (cxOf (L2N.CX P w) P w K mg base N qual (defScope st) f cdv A outer s H E) (defBody st) t ∧ t { nx := fun _ H' => Q .non H', rt := Q } (L2.start N vs) H) :
    FnOk P w K mg base (L2N.CX P w) (k + 1) f fd ps sp := by
  obtain ⟨o1, o2, kV, doc, pm, an, cdv, ct, osl, e, lk, hcd⟩ := F.ex
  subst e
  exact fn_of lk hcd S len fun A outer s H vs Q E hr hs => hb cdv A outer s H vs Q E hr hs
end
/-! ### making an error -/
section
variable {X : Cx} {x : Str} {e : Expr} {es : List Expr} {ta : TA} {p pos : Pos}
theorem pmk_noargN {C : Addr} {bmB : List Value} {B newId initId : String} (F : ExcBaseFacts B newId initId bmB) (q : PySem.W.excIn X.K C bmB newId = true) (gC : X.mg x = some (.ref C)) (kC : PySem.W.keepIn X.K (.ref C) = true) (r : Raises X (.ref C)) (hg : Gl X x)
    (hdb : (x == ("__debug__" : Str)) = false := by decide) : L2N.PMk X (.Call (.Name x p) [] [] pos) (fun _ H Q => Q (.ref C) none H) := by
  intro pins s σ H Q I h
  refine wpAny_Call_Name_kw (ld_glob I hg gC ?_ hdb)
  refine PySem.W.callWith_K0 I.kIn kC ?_
  obtain ⟨bm, N, nm, qn, bs, hdct, sn, sub, ab, col, dd, k0, k1, k2, k3, k5, mN, hC, hN, hni, T⟩ := exc_obj I.kIn q
  exact wpAny_call_exc_subT F T hC hN hni (fun h' e hm => L2N.mk_of I hm r h (I.hok.gone hm.new)) (Nat.zero_le _)
theorem pmk_initN {CX : CXT} {C fI : Addr} {k : Nat} {fd : FuncData} {ps : List Str} {sp : Sp} {ds : List Value} {dvs : List V} (T : OexC X.K C) (iC : PySem.W.findIn X.K (.ref C) "__init__" = some (some (.ref fI)))
    (tI : PySem.W.typeIn X.K (.ref fI) = some (.type "function")) (F1 : FnOk X.prog X.w X.K X.mg X.base CX k fI fd ps sp) (hr : Room (k + 1) X.A) (hb : Binds X.K fd ps ds) (hd : Vals dvs ds) (hx : Passes CX X (fun _ _ _ => False)) (hg : Gl X x) (hm : X.mg x = some (.ref C))
    (ha : PA X (e :: es) ta) (hdb : (x == ("__debug__" : Str)) = false := by decide) (he : starEach (e :: es) X.env = (false, eval e X.env) :: starEach es X.env := by rfl) (hpl : (backTo pos (starEach es X.env)).any (·.1) = false := by rfl) :
    L2N.PMk X (.Call (.Name x p) (e :: es) [] pos) (tMkO C sp dvs ta) := by
  intro pins s σ H Q I h
  obtain ⟨nm, q, N, bs, bm, sn, sub, ab, col, dd, k0, k1, k2, k3, k5, hC, hbm⟩ := T.cls
  refine wpAny_Call_Name_kw (ld_glob I hg hm ?_ hdb)
  refine PySem.W.callWith_K (h₀ := X.base) I.ok.mod.kin T.kC (thn (ha.run pos pins s σ H _ I h) fun us s1 ⟨vs, H1, I1, r1, hz, q1⟩ => ⟨I1.kIn, ?_⟩) he hpl
  show wpAny _ _ (call (.ref C) us) _ _ _
  obtain ⟨hp, g, dr, tk, os⟩ := s1
  have ln : hp.objs.size ≤ hp.objs.size + 1 := Nat.le_succ _
  have fr : H1 (hp.objs.size + 1) = none := I1.hok.fresh ln
  have spq := q1 (hp.objs.size + 1) fr
  have old : ∀ b o, hp.get? b = some o → ((hp.push (PySem.W.kdv_tup us)).push (PySem.HandSPX.excO C hp.objs.size)).get? b = some o := fun b o e => Heap.get?_push_of_some _ (Heap.get?_push_of_some _ e)
  have its : ((hp.push (PySem.W.kdv_tup us)).push (PySem.HandSPX.excO C hp.objs.size)).get? (hp.objs.size + 1) = some (PySem.HandSPX.excO C hp.objs.size) := by heap_get
  have I2 : Inv X pins σ (upd H1 (hp.objs.size + 1) (exo (hp.objs.size + 1) C none)) ⟨(hp.push (PySem.W.kdv_tup us)).push (PySem.HandSPX.excO C hp.objs.size), g, dr, tk, os⟩ :=
    I1.laid (t' := tk) (a := hp.objs.size + 1) (o := exo (hp.objs.size + 1) C none) (h' := (hp.push (PySem.W.kdv_tup us)).push (PySem.HandSPX.excO C hp.objs.size)) old ln (exo_ok its)
  have vr : Vals (V.ref (hp.objs.size + 1) :: (vs ++ dvs)) (Value.ref (hp.objs.size + 1) :: (us ++ ds)) := .cons rfl (r1.append hd)
  have hl : (Value.ref (hp.objs.size + 1) :: us ++ ds).length = ps.length := by
    have e := vr.length
    rw [F1.len _ _ _ _ spq] at e
    exact e.symm
  have su : us.length ≤ sizeLine := by
    have := Paired.length r1
    rw [sizeLine_eq]; omega
  refine wpAny_call (PySem.HandSPX.call_own F.excBase_ValueError (fun Y => PySem.HandSPX.refsVE_contains Y bm hbm) (I1.kIn _ _ hC) (PySem.W.looks_findIn I1.kIn iC) (fun self => PySem.W.bind_fn I1.kIn self tI) su
    (codeAny_mono (F1.run _ X.stack _ _ ⟨Value.ref (hp.objs.size + 1) :: us, []⟩ (Value.ref (hp.objs.size + 1) :: (us ++ ds)) _ _ (fun _ _ _ => False) (hr.make C us []) (I2.env0.make C us []) (hb _ (Value.ref (hp.objs.size + 1) :: us) I2.kIn hl) vr spq) fun r s' hq => ?_))
  cases r with
  | error er => exact hx pins σ _ _ er s' I2 hq
  | ok fl =>
    cases fl with
    | next => exact False.elim hq
    | brk => exact False.elim hq
    | cont => exact False.elim hq
    | ret u =>
      obtain ⟨v, H2, o2, b2, u2, k2', rv, ev, d, fs, ea, ed, hd1, q2⟩ := hq
      subst ev
      obtain ⟨h2, g2, d2, t2, os'⟩ := s'
      obtain ⟨t0, G, J, kG, ge, hoe, na⟩ := mk_end0 (d2 := d2) (t2 := t2) I1 ln old u2 k2' o2 b2 ea ed hd1
      exact ⟨rv, hp.objs.size + 1, _, _, ⟨G, g2, d2, t2, os'⟩, _, .ref C, some d, rfl, J, kG, ge, hoe, ⟨rfl, rfl, fun vs e => by cases e; rfl⟩, rfl, rfl, na, rfl, b2, raises_own T.exC T.tyC, q2⟩
end
/-! ### list.count, flat items -/
def rCntF (K : PySem.W.Frag) : V → List V → Hp → VK → Prop := fun x xs H Q => ∃ (a : Addr) (ys : List V) (y : V), x = V.ref a ∧ xs = [y] ∧ SqL K H a ys ∧ flatV y = true ∧ ys.all flatV = true ∧ Q (.int ((ys.countP fun z => eqV z y) : Nat)) H
end LL

set_option Elab.async false
set_option linter.all false
set_option maxRecDepth 100000
set_option maxHeartbeats 2000000
/-! LExd: isinstance of a held error whatever its dict; try with clauses that name the error -/
namespace LL
open PySem PySem.Spec PyProof.Rows L2
section
open PySem.W PySem.Calls
variable {prog : Program} {w : World} {A : Around} {E : Value → Shared → Prop} {s : Shared} {K : Frag} {x D : Addr} {ox : Obj} {od : Option Obj}
end
/-- isinstance(e, c), e a held error at a, of class D, its dict d -/
def rIsP (K : PySem.W.Frag) (D a : Addr) (d : Option Addr) : List V → Hp → VK → Prop := fun xs H Q => ∃ (c : V) (cv : Value) (b : Bool), xs = [.ref a, c] ∧ (∀ u, RelV c u → u = cv) ∧ (∀ dd, d = some dd → ∃ fs, H dd = some (.xd fs)) ∧ PySem.W.kitOne K (.ref D) cv = some b ∧ Q (.bl b) H
/-! ### try with clauses that name the error -/
def wAsMany (K : PySem.W.Frag) (i : Nat) (Wout : WX) (D : Ends) : List (Value × (Addr → Value → Option Addr → TS)) → WX
  | [] => Wout
  | (c, ts) :: l => fun cls d σ H => ∃ b, PySem.W.exmOne K cls c = some b ∧
      (b = true → ∀ a, H a = none → ts a cls d { nx := fun σ' H' => D.nx (σ'.set i none) H', rt := D.rt, bk := fun σ' H' => D.bk (σ'.set i none) H', ct := fun σ' H' => D.ct (σ'.set i none) H' } (σ.set i (some (.ref a))) H) ∧
      (b = false → wAsMany K i Wout D l cls d σ H)
inductive HdsAs (X : Cx) (n : Str) : List ExceptHandler → List (Value × (Addr → Value → Option Addr → TS)) → Prop
  | nil : HdsAs X n [] []
  | cons {x : Str} {c : Value} {ts : Addr → Value → Option Addr → TS} {b₀ : Stmt} {suite : List Stmt} {np pos' : Pos} {hds : List ExceptHandler} {l : List (Value × (Addr → Value → Option Addr → TS))} (hc : Names X x c)
      (hsu : ∀ (a : Addr) (oe : Obj) (cls : Value) (d : Option Addr) (pn : List (Addr × Obj)), L2N.Zn cls d oe → (∃ vs, oe.data = .fields vs) → PSs (X.suite a ((a, oe) :: pn)) (b₀ :: suite) (ts a cls d)) (r : HdsAs X n hds l) :
      HdsAs X n (.ExceptHandler (some (.Name x np)) (some n) (b₀ :: suite) pos' :: hds) ((c, ts) :: l)
  /-- a clause that is never gone -/
  | dead {x : Str} {c : Value} {b₀ : Stmt} {suite : List Stmt} {np pos' : Pos} {hds : List ExceptHandler} {l : List (Value × (Addr → Value → Option Addr → TS))} (hc : Names X x c) (r : HdsAs X n hds l) :
      HdsAs X n (.ExceptHandler (some (.Name x np)) none (b₀ :: suite) pos' :: hds) ((c, fun _ _ _ _ _ _ => False) :: l)
section
open L2N
variable {X : Cx} {n : Str} {i : Nat} {body : List Stmt} {h₀ : ExceptHandler} {hds : List ExceptHandler} {l : List (Value × (Addr → Value → Option Addr → TS))} {pos : Pos} {tb : WX → TS} {Wout : WX}
end
end LL

set_option Elab.async false
set_option linter.all false
set_option maxRecDepth 100000
set_option maxHeartbeats 2000000
/-! LNam: a def that is called in an except suite with the held error itself -/
namespace LL
open PySem PySem.Spec PyProof.Rows L2 L2H
/-- what a def promises of a call whose argument may be the held error p -/
structure FnP (P : Program) (w : World) (K : PySem.W.Frag) (mg : Str → Option Value) (base : Heap) (k : Nat) (f : Addr) (fd : FuncData) (ps : List Str) (sp : Addr × Obj → Sp) : Prop where
  len : ∀ p vs H Q E, sp p vs H Q E → vs.length = ps.length
  run : ∀ (A : Around) (outer : List Env) (s : Shared) (H : Hp) (args : Args) (us : List Value) (vs : List V) (Q : VK) (E : XK) (p : Addr × Obj), RoomH k A → PinOk outer H s p → Env0 P w K mg base A outer s H → BindsTo s fd args (ps.zip us) → Vals vs us → sp p vs H Q E →
    codeAny (model P w) A (.call (.ref f) args) (CR CX0 outer P w H s Q E) s
def tCallP (sp : Addr × Obj → Sp) (p : Addr × Obj) (E : XK) (t : TA) : TE := fun σ H Q => t σ H fun vs H1 => sp p vs H1 Q E
end LL

set_option Elab.async false
set_option linter.all false
set_option maxRecDepth 100000
set_option maxHeartbeats 400000
namespace LL
open PySem PySem.Spec PyProof.Rows L2
variable [KW]
theorem szL_le {k : Nat} : ∀ {ds : List PyData}, (∀ d ∈ ds, sz d ≤ k) → szL ds ≤ k * ds.length
  | [], _ => by rw [szL_nil]; exact Nat.zero_le _
  | d :: ds, h => by
    have := szL_le (ds := ds) (fun x hx => h x (List.mem_cons_of_mem _ hx))
    have := h d List.mem_cons_self
    rw [szL_cons, List.length_cons, Nat.mul_succ]
    omega
theorem depL_le {k : Nat} : ∀ {ds : List PyData}, (∀ d ∈ ds, dep d ≤ k) → depL ds ≤ k
  | [], _ => by rw [depL_nil]; exact Nat.zero_le _
  | d :: ds, h => by
    have := depL_le (ds := ds) (fun x hx => h x (List.mem_cons_of_mem _ hx))
    have := h d List.mem_cons_self
    rw [depL_cons]
    omega
theorem IsDs.setV {M : List Addr} {H : Hp} {v : V} {d : PyData} (x : Is M H d v) : ∀ {ds : List PyData} {vs : List V} (j : Nat), IsDs M H ds vs → IsDs M H (ds.set j d) (vs.set j v)
  | [], vs, j, y => by
    unfold IsDs at y
    subst y
    exact IsDs.nil
  | e :: ds, vs, 0, y => by
    unfold IsDs at y
    obtain ⟨v', r, rfl, h1, h2⟩ := y
    exact IsDs.cons x h2
  | e :: ds, vs, j + 1, y => by
    unfold IsDs at y
    obtain ⟨v', r, rfl, h1, h2⟩ := y
    exact IsDs.cons h1 (IsDs.setV x j h2)
theorem mem_set {α : Type} {P : α → Prop} {d : α} (hd : P d) : ∀ {ds : List α} (j : Nat), (∀ x ∈ ds, P x) → ∀ x ∈ ds.set j d, P x := fun {ds} j h x hx => by
  rcases List.mem_or_eq_of_mem_set hx with h1 | h1
  · exact h x h1
  · rw [h1]; exact hd
/-- a sheet of good rows, a stream beside it -/
structure ShAt (H : Hp) (s sh : Addr) (rs : List V) (ds : List PyData) : Prop where
  str : StrAt [s] H s
  ne : sh ≠ s
  at_ : H sh = some (.lst rs)
  rd : IsDs [s] H ds rs
  len : ds.length ≤ 200
  sm : ∀ d ∈ ds, Small d
theorem ShAt.adv {H H' : Hp} {s sh : Addr} {rs : List V} {ds : List PyData} (x : ShAt H s sh rs ds) (a : Adv [s] H H') (hs : StrAt [s] H' s) : ShAt H' s sh rs ds :=
  ⟨hs, x.ne, a _ _ (by simpa using x.ne) x.at_, x.rd.adv a, x.len, x.sm⟩
theorem ShAt.same {H H' : Hp} {s sh : Addr} {rs : List V} {ds : List PyData} (x : ShAt H s sh rs ds) (a : Adv [] H H') : ShAt H' s sh rs ds := x.adv (Adv.nil a) (x.str.same a)
theorem ShAt.is {H : Hp} {s sh : Addr} {rs : List V} {ds : List PyData} (x : ShAt H s sh rs ds) : Is [s] H (.list ds) (.ref sh) := Is.lst x.at_ (by simpa using x.ne) x.rd
/-- a copy that is bent -/
structure BtAt (H : Hp) (s bt : Addr) (rs : List V) (ds : List PyData) : Prop where
  str : StrAt [bt, s] H s
  ne : bt ≠ s
  at_ : H bt = some (.lst rs)
  rd : IsDs [bt, s] H ds rs
  len : ds.length ≤ 300
  sm : ∀ d ∈ ds, sz d ≤ 10 ∧ dep d ≤ 3
theorem BtAt.al {H : Hp} {s bt : Addr} {rs : List V} {ds : List PyData} (x : BtAt H s bt rs ds) : ∀ b ∈ [bt, s], H b ≠ none := fun b hb => by
  simp at hb
  rcases hb with h | h
  · rw [h, x.at_]; simp
  · rw [h]; exact x.str.here
theorem BtAt.adv {H H' : Hp} {s bt : Addr} {rs : List V} {ds : List PyData} (x : BtAt H s bt rs ds) (a : Adv [s] H H') (hs : StrAt [bt, s] H' s) : BtAt H' s bt rs ds :=
  ⟨hs, x.ne, a _ _ (by simpa using x.ne) x.at_, x.rd.adv (a.more (by simp)), x.len, x.sm⟩
theorem BtAt.same {H H' : Hp} {s bt : Addr} {rs : List V} {ds : List PyData} (x : BtAt H s bt rs ds) (a : Adv [] H H') : BtAt H' s bt rs ds := x.adv (Adv.nil a) (x.str.same a)
theorem BtAt.is {H : Hp} {s bt : Addr} {rs : List V} {ds : List PyData} (x : BtAt H s bt rs ds) : Is [] H (.list ds) (.ref bt) := Is.lst x.at_ (by simp) (x.rd.less (by simp))
theorem BtAt.put {H : Hp} {s bt : Addr} {rs : List V} {ds : List PyData} (x : BtAt H s bt rs ds) {v : V} {d : PyData} (j : Nat) (hv : Is [bt, s] H d v) (h1 : sz d ≤ 10) (h2 : dep d ≤ 3) : BtAt (upd H bt (.lst (rs.set j v))) s bt (rs.set j v) (ds.set j d) := by
  have a : Adv [bt] H (upd H bt (.lst (rs.set j v))) := Adv.set (by simp)
  have a2 : Adv [bt, s] H (upd H bt (.lst (rs.set j v))) := a.more (by simp)
  exact ⟨x.str.adv a (by simpa using x.ne.symm) (by simp), x.ne, upd_same, (IsDs.setV hv j x.rd).adv a2, by rw [List.length_set]; exact x.len, mem_set (P := fun d => sz d ≤ 10 ∧ dep d ≤ 3) ⟨h1, h2⟩ j x.sm⟩
theorem BtAt.push {H : Hp} {s bt : Addr} {rs : List V} {ds : List PyData} (x : BtAt H s bt rs ds) {v : V} {d : PyData} (hv : Is [bt, s] H d v) (h1 : sz d ≤ 10) (h2 : dep d ≤ 3) (hl : ds.length ≤ 200) : BtAt (upd H bt (.lst (rs ++ [v]))) s bt (rs ++ [v]) (ds ++ [d]) := by
  have a : Adv [bt] H (upd H bt (.lst (rs ++ [v]))) := Adv.set (by simp)
  have a2 : Adv [bt, s] H (upd H bt (.lst (rs ++ [v]))) := a.more (by simp)
  refine ⟨x.str.adv a (by simpa using x.ne.symm) (by simp), x.ne, upd_same, (x.rd.app (.cons hv .nil)).adv a2, by rw [List.length_append, List.length_singleton]; omega, fun y hy => ?_⟩
  rcases List.mem_append.mp hy with h | h
  · exact x.sm y h
  · rw [List.mem_singleton.mp h]; exact ⟨h1, h2⟩
theorem BtAt.sheet {H0 H : Hp} {s sh bt : Addr} {rs rs' : List V} {ds ds' : List PyData} (x : BtAt H s bt rs' ds') (y : ShAt H0 s sh rs ds) (n : H0 bt = none) (a : Adv [bt, s] H0 H) : ShAt H s sh rs ds :=
  y.adv (a.drop n) (x.str.less (by simp))
end LL

set_option Elab.async false
set_option linter.all false
set_option maxRecDepth 100000
set_option maxHeartbeats 400000
/-! LNd: the nodes of a right sheet by themselves -/
namespace LL
open PySem PySem.Spec PyProof.Rows L2
variable [KW]
inductive Op3
  | and | or | imp
  deriving DecidableEq
def Op3.str : Op3 → Str
  | .and => "and"
  | .or => "or"
  | .imp => "if"
inductive Nd
  | no | letter (i : Nat) | bin (o : Op3) (j k : Nat) | box (j : Nat)
  deriving DecidableEq
def Nd.keys : Nd → List Key
  | .no => [.inr "no"]
  | .letter i => [.inr "letter", .inl i]
  | .bin o j k => [.inr o.str, .inl j, .inl k]
  | .box j => [.inr "box", .inl j]
def Nd.data (n : Nd) : PyData := .tuple (n.keys.map keyDt)
def Nd.ok (boxed : Bool) (at_ : Nat) : Nd → Bool
  | .no => true
  | .letter i => decide (i ≤ 7)
  | .bin _ j k => decide (j < at_) && decide (k < at_)
  | .box j => boxed && decide (j < at_)
theorem op_inj {o p : Op3} (h : o.str = p.str) : o = p := by
  cases o <;> cases p <;> first | rfl | exact absurd h (by decide)
theorem op_no (o : Op3) : o.str ≠ "no" ∧ o.str ≠ "letter" ∧ o.str ≠ "box" := by cases o <;> decide
theorem keys_inj {m n : Nd} (h : m.keys = n.keys) : m = n := by
  cases m <;> cases n <;> simp only [Nd.keys, List.cons.injEq, Sum.inr.injEq, Sum.inl.injEq, and_true, reduceCtorEq, and_false] at h
  case no.no => rfl
  case letter.letter i j =>
    have := h.2
    congr 1
    omega
  case letter.box i j => exact absurd h.1 (by decide)
  case bin.bin o j k o' j' k' =>
    obtain ⟨h1, h2, h3⟩ := h
    have e1 := op_inj h1
    have e2 : j = j' := by omega
    have e3 : k = k' := by omega
    subst e1; subst e2; subst e3; rfl
  case box.letter i j => exact absurd h.1 (by decide)
  case box.box i j =>
    have := h.2
    congr 1
    omega
theorem Nd.keysD (n : Nd) : LL.keysD n.data = n.keys := by
  cases n <;> rfl
theorem num_nat {lo hi : Int} {p : PyData} (h : isNum lo hi p = true) (h0 : 0 ≤ lo) : ∃ i : Nat, p = .int i ∧ lo ≤ i ∧ (i : Int) ≤ hi := by
  cases p with
  | int i =>
    simp only [isNum, Bool.and_eq_true, decide_eq_true_eq] at h
    exact ⟨i.toNat, by rw [Int.toNat_of_nonneg (by omega)], by omega, by omega⟩
  | _ => cases h
/-- what the check of a node says -/
theorem nodeB_nd {boxed : Bool} {at_ : Nat} {d : PyData} (h : nodeB boxed at_ d = true) : ∃ n : Nd, d = n.data ∧ n.ok boxed at_ = true := by
  unfold nodeB at h
  split at h
  case h_2 => cases h
  rename_i w ps
  split at h
  case isFalse => cases h
  rename_i hn
  have one : ∀ {lo hi : Int} {q : List PyData}, q.length = 1 → 0 ≤ lo → q.all (isNum lo hi) = true → ∃ i : Nat, q = [.int i] ∧ lo ≤ i ∧ (i : Int) ≤ hi := fun {lo hi q} hl h0 ha => by
    match q, hl with
    | [p], _ =>
      simp only [List.all_cons, List.all_nil, Bool.and_true] at ha
      obtain ⟨i, rfl, h1, h2⟩ := num_nat ha h0
      exact ⟨i, rfl, h1, h2⟩
  have two : ∀ {lo hi : Int} {q : List PyData}, q.length = 2 → 0 ≤ lo → q.all (isNum lo hi) = true → ∃ i k : Nat, q = [.int i, .int k] ∧ (i : Int) ≤ hi ∧ (k : Int) ≤ hi := fun {lo hi q} hl h0 ha => by
    match q, hl with
    | [p, r], _ =>
      simp only [List.all_cons, List.all_nil, Bool.and_true, Bool.and_eq_true] at ha
      obtain ⟨i, rfl, h1, h2⟩ := num_nat ha.1 h0
      obtain ⟨k, rfl, h3, h4⟩ := num_nat ha.2 h0
      exact ⟨i, k, rfl, h2, h4⟩
  unfold nItems at hn
  by_cases e1 : w = "letter"
  · subst e1
    rw [if_pos rfl] at hn h
    have hl : ps.length = 1 := by
      have := Option.some.inj hn
      omega
    obtain ⟨i, rfl, h1, h2⟩ := one hl (by omega) h
    exact ⟨.letter i, rfl, by simp only [Nd.ok, decide_eq_true_eq]; omega⟩
  rw [if_neg e1] at hn h
  by_cases e2 : w = "no"
  · subst e2
    rw [if_pos rfl] at hn
    have hl : ps = [] := by
      have := Option.some.inj hn
      exact List.length_eq_zero_iff.mp (by omega)
    subst hl
    exact ⟨.no, rfl, rfl⟩
  rw [if_neg e2] at hn
  have bin : ∀ o : Op3, w = o.str → ps.length = 2 → (if (w = "box" && !boxed) = true then false else ps.all (isNum 0 ((at_ : Int) - 1))) = true → ∃ n : Nd, PyData.tuple (.str w :: ps) = n.data ∧ n.ok boxed at_ = true := fun o ew hl hh => by
    have nb : ¬ (w = "box" && !boxed) = true := by
      intro z
      simp only [Bool.and_eq_true, decide_eq_true_eq] at z
      exact (op_no o).2.2 (by rw [← ew]; exact z.1)
    rw [if_neg nb] at hh
    obtain ⟨i, k, rfl, h2, h3⟩ := two hl (by omega) hh
    subst ew
    exact ⟨.bin o i k, rfl, by simp only [Nd.ok, Bool.and_eq_true, decide_eq_true_eq]; omega⟩
  by_cases e3 : w = "and"
  · subst e3
    rw [if_pos rfl] at hn
    exact bin .and rfl (by have := Option.some.inj hn; omega) h
  rw [if_neg e3] at hn
  by_cases e4 : w = "or"
  · subst e4
    rw [if_pos rfl] at hn
    exact bin .or rfl (by have := Option.some.inj hn; omega) h
  rw [if_neg e4] at hn
  by_cases e5 : w = "if"
  · subst e5
    rw [if_pos rfl] at hn
    exact bin .imp rfl (by have := Option.some.inj hn; omega) h
  rw [if_neg e5] at hn
  by_cases e6 : w = "box"
  · subst e6
    rw [if_pos rfl] at hn
    have hl : ps.length = 1 := by
      have := Option.some.inj hn
      omega
    cases boxed with
    | false => exact absurd h (by simp)
    | true =>
      have h' : ps.all (isNum 0 ((at_ : Int) - 1)) = true := by simpa using h
      obtain ⟨i, rfl, h1, h2⟩ := one hl (by omega) h'
      exact ⟨.box i, rfl, by simp only [Nd.ok, Bool.true_and, decide_eq_true_eq]; omega⟩
  rw [if_neg e6] at hn
  cases hn
/-- a right sheet -/
def okSheet (boxed : Bool) (ns : List Nd) : Prop := ns.Nodup ∧ ∀ (i : Nat) (n : Nd), ns[i]? = some n → n.ok boxed i = true
/-- the row of a node, a new one at the end if there is none -/
def rowF (ns : List Nd) (n : Nd) : Nat × List Nd := if n ∈ ns then (ns.idxOf n, ns) else (ns.length, ns ++ [n])
theorem rowF_lt (ns : List Nd) (n : Nd) : (rowF ns n).1 < (rowF ns n).2.length := by
  unfold rowF
  split
  · exact List.idxOf_lt_length_of_mem (by assumption)
  · simp
theorem rowF_pre (ns : List Nd) (n : Nd) : ns <+: (rowF ns n).2 := by
  unfold rowF
  split
  · exact List.prefix_refl _
  · exact List.prefix_append _ _
theorem rowF_ok {boxed : Bool} {ns : List Nd} {n : Nd} (h : okSheet boxed ns) (hn : n.ok boxed ns.length = true) : okSheet boxed (rowF ns n).2 := by
  unfold rowF
  split
  · exact h
  · rename_i hm
    refine ⟨?_, fun i m hi => ?_⟩
    · rw [List.nodup_append]
      refine ⟨h.1, by simp, fun a ha b hb => ?_⟩
      rw [List.mem_singleton.mp hb]
      exact fun e => hm (e ▸ ha)
    · rcases Nat.lt_or_ge i ns.length with hl | hl
      · rw [List.getElem?_append_left hl] at hi
        exact h.2 i m hi
      · have e : i = ns.length := by
          have := (List.getElem?_eq_some_iff.mp hi).1
          simp at this
          omega
        subst e
        simp at hi
        subst hi
        exact hn
/-- the row that denies row r -/
def denyF (ns : List Nd) (r : Nat) : Nat × List Nd := rowF (rowF ns .no).2 (.bin .imp r (rowF ns .no).1)
theorem memK_iff {k : List Key} {l : List (List Key)} : memK k l = true ↔ k ∈ l := by
  unfold memK
  rw [List.any_eq_true]
  constructor
  · rintro ⟨x, hx, e⟩
    rw [← of_decide_eq_true e]; exact hx
  · intro h
    exact ⟨k, h, by simp⟩
theorem wrongF_none {most : Int} {boxed : Bool} : ∀ {ds : List PyData} {pre : List Nd}, okSheet boxed pre → wrongF most boxed pre.length (pre.map Nd.keys) ds = none →
    ∃ ns : List Nd, ds = ns.map Nd.data ∧ okSheet boxed (pre ++ ns) ∧ (ns = [] ∨ ((pre.length + ns.length : Nat) : Int) ≤ most)
  | [], pre, hp, _ => ⟨[], rfl, by rw [List.append_nil]; exact hp, .inl rfl⟩
  | d :: ds, pre, hp, h => by
    unfold wrongF at h
    split at h
    case isFalse => cases h
    rename_i hm
    split at h
    case isFalse => cases h
    rename_i hb
    obtain ⟨n, rfl, hn⟩ := nodeB_nd hb
    split at h
    case isTrue => cases h
    rename_i hk
    rw [Nd.keysD] at hk h
    have hnm : n ∉ pre := fun z => hk (memK_iff.mpr (List.mem_map_of_mem z))
    have hp2 : okSheet boxed (pre ++ [n]) := by
      have := rowF_ok hp hn
      unfold rowF at this
      rw [if_neg hnm] at this
      exact this
    have h2 : wrongF most boxed (pre ++ [n]).length ((pre ++ [n]).map Nd.keys) ds = none := by
      rw [List.map_append, List.length_append]
      exact h
    obtain ⟨ns, e, h3, h4⟩ := wrongF_none hp2 h2
    refine ⟨n :: ns, by rw [List.map_cons, ← e], by rw [List.append_assoc] at h3; exact h3, .inr ?_⟩
    rcases h4 with h4 | h4
    · subst h4
      simp only [List.length_cons, List.length_nil]
      omega
    · rw [List.length_append] at h4
      simp only [List.length_cons, List.length_nil] at h4 ⊢
      omega
theorem wrongD_none {most : Int} {boxed : Bool} {d : PyData} (h0 : 0 ≤ most) (h : wrongD most boxed d = none) : ∃ ns : List Nd, d = .list (ns.map Nd.data) ∧ okSheet boxed ns ∧ (ns.length : Int) ≤ most := by
  cases d with
  | list ds =>
    obtain ⟨ns, e, h1, h2⟩ := wrongF_none (pre := []) ⟨List.nodup_nil, fun i n hi => by simp at hi⟩ h
    refine ⟨ns, by rw [e], h1, ?_⟩
    rcases h2 with h2 | h2
    · rw [h2]; exact h0
    · simpa using h2
  | _ => cases h
end LL

set_option Elab.async false
set_option linter.all false
set_option maxRecDepth 100000
set_option maxHeartbeats 400000
/-! LRead: the rows below rows; the three readings of rows, in plain words -/
namespace LL
open PySem PySem.Spec PyProof.Rows L2
variable [KW]
def Nd.parts : Nd → List Nat
  | .no => []
  | .letter _ => []
  | .bin _ j k => [j, k]
  | .box j => [j]
theorem parts_lt {boxed : Bool} {i : Nat} {n : Nd} (h : n.ok boxed i = true) : ∀ p ∈ n.parts, p < i := by
  cases n <;> simp [Nd.ok, Nd.parts] at h ⊢
  · exact h
  · exact h.2
def markP (m : Nat → Bool) (ps : List Nat) : Nat → Bool := fun x => m x || ps.contains x
def markDown (ns : List Nd) : Nat → (Nat → Bool) → Nat → Bool
  | 0, m => m
  | k + 1, m => markDown ns k (if m k = true then markP m ((ns[k]?.getD .no).parts) else m)
theorem markP_keep {m : Nat → Bool} {ps : List Nat} {x : Nat} (h : m x = true) : markP m ps x = true := by
  unfold markP; rw [h]; rfl
theorem markP_new {m : Nat → Bool} {ps : List Nat} {x : Nat} (h : x ∈ ps) : markP m ps x = true := by
  unfold markP
  rw [show ps.contains x = true from by simpa using h, Bool.or_true]
theorem markDown_keep (ns : List Nd) : ∀ (k : Nat) (m : Nat → Bool) (x : Nat), m x = true → markDown ns k m x = true
  | 0, m, x, h => h
  | k + 1, m, x, h => by
    unfold markDown
    refine markDown_keep ns k _ x ?_
    split
    · exact markP_keep h
    · exact h
/-- what stands at k and above isn't changed by the walk from k down -/
theorem markDown_above {boxed : Bool} {ns : List Nd} (ok : okSheet boxed ns) : ∀ (k : Nat) (m : Nat → Bool) (x : Nat), k ≤ ns.length → k ≤ x + 1 → markDown ns k m x = m x
  | 0, m, x, _, _ => rfl
  | k + 1, m, x, hk, hx => by
    unfold markDown
    rw [markDown_above ok k _ x (by omega) (by omega)]
    split
    · have hn : ns[k]? = some ns[k] := List.getElem?_eq_getElem (by omega)
      unfold markP
      rw [hn]
      have hnot : (ns[k] : Nd).parts.contains x = false := by
        refine Bool.eq_false_iff.mpr fun z => ?_
        have hm : x ∈ (ns[k] : Nd).parts := by simpa using z
        have := parts_lt (ok.2 k _ hn) x hm
        omega
      show (m x || (ns[k] : Nd).parts.contains x) = m x
      rw [hnot, Bool.or_false]
    · rfl
theorem markDown_parts {boxed : Bool} {ns : List Nd} (ok : okSheet boxed ns) : ∀ (k : Nat) (m : Nat → Bool) (i : Nat) (n : Nd), k ≤ ns.length → i < k → ns[i]? = some n → markDown ns k m i = true → ∀ p ∈ n.parts, markDown ns k m p = true
  | 0, m, i, n, _, hi, _, _ => by omega
  | k + 1, m, i, n, hk, hi, hn, h => by
    intro p hp
    unfold markDown at h ⊢
    rcases Nat.lt_or_ge i k with hlt | hge
    · exact markDown_parts ok k _ i n (by omega) hlt hn h p hp
    · have e : i = k := by omega
      subst e
      rw [markDown_above ok i _ i (by omega) (by omega)] at h
      have hmi : m i = true := by
        cases q : m i with
        | true => rfl
        | false =>
          rw [q, if_neg Bool.false_ne_true, q] at h
          exact h
      rw [if_pos hmi]
      refine markDown_keep ns i _ p ?_
      rw [hn]
      exact markP_new hp
def marked (ns : List Nd) (rows : List Nat) : Nat → Bool := markDown ns ns.length (markP (fun _ => false) rows)
def belowF (ns : List Nd) (rows : List Nat) : List Nat := (List.range ns.length).filter (marked ns rows)
theorem below_mem {ns : List Nd} {rows : List Nat} {i : Nat} : i ∈ belowF ns rows ↔ i < ns.length ∧ marked ns rows i = true := by
  unfold belowF
  rw [List.mem_filter, List.mem_range]
theorem below_parts {boxed : Bool} {ns : List Nd} {rows : List Nat} (ok : okSheet boxed ns) {i : Nat} {n : Nd} (h : i ∈ belowF ns rows) (hn : ns[i]? = some n) : ∀ p ∈ n.parts, p ∈ belowF ns rows ∧ p < i := fun p hp => by
  obtain ⟨h1, h2⟩ := below_mem.mp h
  have hl := parts_lt (ok.2 i n hn) p hp
  exact ⟨below_mem.mpr ⟨by omega, markDown_parts ok ns.length _ i n (Nat.le_refl _) h1 hn h2 p hp⟩, hl⟩
/-! ### the readings -/
inductive W3
  | neg | box | dou
  deriving DecidableEq
def W3.str : W3 → Str
  | .neg => "negative"
  | .box => "boxed"
  | .dou => "doubled"
/-- the node with its parts' new rows -/
def Nd.moved (new : Nat → Nat) : Nd → Nd
  | .bin o j k => .bin o (new j) (new k)
  | .box j => .box (new j)
  | n => n
def stepF (w : W3) (ns : List Nd) (at_ : Nat) (n : Nd) (new : Nat → Nat) : Nat × List Nd :=
  match w, n with
  | _, .no => (at_, ns)
  | .dou, .letter _ => (at_, ns)
  | .neg, .letter _ => denyF (denyF ns at_).2 (denyF ns at_).1
  | .box, .letter _ => rowF ns (.box at_)
  | .neg, .bin .or j k =>
    let a := denyF ns (new j)
    let b := denyF a.2 (new k)
    let c := rowF b.2 (.bin .and a.1 b.1)
    denyF c.2 c.1
  | .box, .bin .imp j k =>
    let a := rowF ns (.bin .imp (new j) (new k))
    rowF a.2 (.box a.1)
  | .dou, .box j =>
    let a := rowF ns (.box (new j))
    rowF a.2 (.bin .and (new j) a.1)
  | _, n => rowF ns (n.moved new)
/-- the rows l, one by one: the grown sheet and what each has become -/
def readF (w : W3) (old : List Nd) : List Nat → List Nd → (Nat → Nat) → List Nd × (Nat → Nat)
  | [], ns, new => (ns, new)
  | i :: l, ns, new =>
    let a := stepF w ns i (old[i]?.getD .no) new
    readF w old l a.2 (fun x => if x = i then a.1 else new x)
end LL

set_option Elab.async false
set_option linter.all false
set_option maxRecDepth 100000
set_option maxHeartbeats 400000
/-! LDx: dicts whose keys are tuples, tracked ones or ones of the written part -/
namespace LL
open PySem PySem.Spec PyProof.Rows L2
variable [KW]
abbrev Ent := List Key × Addr × V
abbrev entKV (p : Ent) : List Key × V := (p.1, p.2.2)
def EntR (p : Ent) (q : List Key × Addr × Value) : Prop := p.1 = q.1 ∧ p.2.1 = q.2.1 ∧ RelV p.2.2 q.2.2
def dxOk (T : Addr) (kas : List Ent) (h : Heap) : Prop := (T == sysModules) = false ∧ kas.length ≤ sizeLine ∧ ∃ xs : List (List Key × Addr × Value), Paired EntR kas xs ∧
  ∃ o es ep, h.get? T = some o ∧ o.ExactDict ∧ o.data = .dict es ep ∧ es.toList = xs.map (fun x => ⟨KW.hs x.1, .ref x.2.1, x.2.2⟩) ∧ (xs.map (·.1)).Nodup
def dxo (T : Addr) (kas : List Ent) : HO := .ext (dxOk T kas)
def putX (kas : List Ent) (k : List Key) (b : Addr) (v : V) : List Ent := if (kas.any fun p => decide (p.1 = k)) = true then kas.map (fun p => if p.1 = k then (p.1, p.2.1, v) else p) else kas ++ [(k, b, v)]
theorem dx_val {kas : List Ent} {xs : List (List Key × Addr × Value)} (r : Paired EntR kas xs) (k : List Key) : RelO (valV (kas.map entKV) k) ((atKey xs k).map (·.2)) := by
  induction r with
  | nil => exact True.intro
  | @cons p q ps qs h t ih =>
    obtain ⟨h1, _, h2⟩ := h
    rw [List.map_cons]
    by_cases e : p.1 = k
    · have e' : q.1 = k := h1.symm.trans e
      have b : atKey (q :: qs) k = some q.2 := by simp [atKey, List.find?_cons, e']
      rw [valV_pos (p := entKV p) e, b]; exact h2
    · have e' : ¬ q.1 = k := fun z => e (h1.trans z)
      have b : atKey (q :: qs) k = atKey qs k := by simp [atKey, List.find?_cons, e']
      rw [valV_neg (p := entKV p) e, b]; exact ih
theorem dx_any {kas : List Ent} {xs : List (List Key × Addr × Value)} (r : Paired EntR kas xs) (k : List Key) : (kas.any fun p => decide (p.1 = k)) = (atKey xs k).isSome := by
  induction r with
  | nil => rfl
  | @cons p q ps qs h t ih =>
    rw [List.any_cons, ih]
    by_cases e : p.1 = k
    · have e' : q.1 = k := h.1.symm.trans e
      have b : atKey (q :: qs) k = some q.2 := by simp [atKey, List.find?_cons, e']
      rw [b, decide_eq_true e]; rfl
    · have e' : ¬ q.1 = k := fun z => e (h.1.trans z)
      have b : atKey (q :: qs) k = atKey qs k := by simp [atKey, List.find?_cons, e']
      rw [b, decide_eq_false e, Bool.false_or]
theorem dx_put {kas : List Ent} {xs : List (List Key × Addr × Value)} (r : Paired EntR kas xs) (k : List Key) (b : Addr) {v : V} {u : Value} (rv : RelV v u) : Paired EntR (putX kas k b v) (storedH xs k b u) := by
  have repl : ∀ {l : List Ent} {m : List (List Key × Addr × Value)}, Paired EntR l m → Paired EntR (l.map fun p => if p.1 = k then (p.1, p.2.1, v) else p) (m.map (putAt k u)) := by
    intro l m q
    induction q with
    | nil => exact .nil
    | @cons p q ps qs h t ih =>
      rw [List.map_cons, List.map_cons]
      refine .cons ?_ ih
      obtain ⟨h1, h2, h3⟩ := h
      unfold putAt
      by_cases e : p.1 = k
      · rw [if_pos e, if_pos (h1.symm.trans e)]; exact ⟨h1, h2, rv⟩
      · rw [if_neg e, if_neg (fun z => e (h1.trans z))]; exact ⟨h1, h2, h3⟩
  unfold putX storedH
  rw [dx_any r k]
  by_cases q : (atKey xs k).isSome = true
  · rw [if_pos q, if_pos q]; exact repl r
  · rw [if_neg q, if_neg q]; exact Paired.snoc r ⟨rfl, rfl, rv⟩
/-- the keys' tuples -/
def KeysAt (K : PySem.W.Frag) (H : Hp) (kas : List Ent) : Prop := ∀ p ∈ kas, SqT K H p.2.1 (p.1.map kV)
/-- what a dict holds at a key -/
def DGX (K : PySem.W.Frag) (H : Hp) (a : Addr) (y : V) (r : Option V) : Prop :=
  ∃ kas k b, H a = some (dxo a kas) ∧ KeysAt K H kas ∧ y = .ref b ∧ SqT K H b (k.map kV) ∧ r = valV (kas.map entKV) k
def DPX (K : PySem.W.Frag) (H : Hp) (a : Addr) (y v : V) (H' : Hp) : Prop :=
  ∃ kas k b, H a = some (dxo a kas) ∧ KeysAt K H kas ∧ y = .ref b ∧ SqT K H b (k.map kV) ∧ kas.length < sizeLine ∧ H' = upd H a (dxo a (putX kas k b v))
section
variable {X : Cx} {w : World} {pins : List (Addr × Obj)} {σ : L2.St} {H : Hp} {s : Shared} {a b : Addr} {y v : V} {u r : Value} {o : Option V} {A : Around} {E : Value → Shared → Prop} {ks : List Key} {kas : List Ent}
theorem key_sq (I : Inv X pins σ H s) (h : SqT X.K H b (ks.map kV)) : (tupleKind (mixKind X.prog X.w)).is s.heap ks b := by
  obtain ⟨its, r, ⟨o, h1, h2, n, h3⟩, _⟩ := I.tuple h
  exact ⟨o, its.toArray, n, h1, h2, h3, by simpa using items_are r⟩
theorem dx_of (W : KWOk X.K X.w) (I : Inv X pins σ H s) (e : H a = some (dxo a kas)) (hk : KeysAt X.K H kas) : (a == sysModules) = false ∧ kas.length ≤ sizeLine ∧
    ∃ xs, Paired EntR kas xs ∧ s.heap.DictOfH (tupleKind (mixKind X.prog X.w)) a xs := by
  obtain ⟨⟨y, z, xs, r, o, es, ep, h1, h2, h3, h4, h5⟩, _, _⟩ := (show ObjOk X.prog X.w H s.heap a (dxo a kas) from I.hok a _ e)
  refine ⟨y, z, xs, r, o, es, ep, h1, h2, h3, ?_, fun x hx => ?_, h5⟩
  · rw [h4]
    refine List.map_congr_left fun x _ => ?_
    unfold entryOfKey
    rw [W.hs X.prog x.1]
  · have all : ∀ {l : List Ent} {m : List (List Key × Addr × Value)}, Paired EntR l m → (∀ p ∈ l, SqT X.K H p.2.1 (p.1.map kV)) → ∀ x ∈ m, (tupleKind (mixKind X.prog X.w)).is s.heap x.1 x.2.1 := by
      intro l m q
      induction q with
      | nil => intro _ x hx; exact nomatch hx
      | @cons p q ps qs hq t ih =>
        intro hp x hx
        rcases List.mem_cons.mp hx with e | hx
        · subst e
          rw [← hq.1, ← hq.2.1]
          exact key_sq I (hp p List.mem_cons_self)
        · exact ih (fun p hp' => hp p (List.mem_cons_of_mem _ hp')) x hx
    exact all r hk x hx
theorem dx_new {h : Heap} {kas : List Ent} {xs : List (List Key × Addr × Value)} {P : Program} {w : World} {H : Hp} (W : ∀ (ks : List Key), KW.hs ks = (tupleKind (mixKind P w)).hash ks) (y : (a == sysModules) = false) (z : kas.length ≤ sizeLine) (r : Paired EntR kas xs) (d : h.DictOfH (tupleKind (mixKind P w)) a xs) :
    ObjOk P w H h a (dxo a kas) := by
  obtain ⟨o, es, ep, h1, h2, h3, h4, _, h5⟩ := d
  refine ⟨⟨y, z, xs, r, o, es, ep, h1, h2, h3, ?_, h5⟩, ⟨o, h1⟩, fun k1 k2 p keep => ?_⟩
  · rw [h4]
    refine List.map_congr_left fun x _ => ?_
    unfold entryOfKey
    rw [W x.1]
  · obtain ⟨y, z, xs, r, o, es, ep, h1, h2⟩ := p
    exact ⟨y, z, xs, r, o, es, ep, keep _ h1, h2⟩
theorem dx_getItem {Q : Value → Shared → Prop} (W : KWOk X.K X.w) (hu : A.units + 1 < cLine) (I : Inv X pins σ H s) (g : DGX X.K H a y (some v)) (ry : RelV y u) (h : ∀ w' s', Inv X pins σ H s' → RelV v w' → Q w' s') :
    wpAny (model X.prog X.w) A (getItem (.ref a) u) Q E s := by
  obtain ⟨kas, k, b, e, hk, ey, eb, l⟩ := g
  subst ey
  cases (show u = Value.ref b from ry)
  obtain ⟨hd, z, xs, rel, dd⟩ := dx_of W I e hk
  obtain ⟨w', hw, rw'⟩ := RelO.some_of (v := v) (o := (atKey xs k).map (·.2)) (by rw [l]; exact dx_val rel k)
  obtain ⟨p, hp, hp2⟩ := Option.map_eq_some_iff.mp hw
  refine wpAny_getItem_heap (tupleKind_room_in1 hu) (key_sq I eb) dd hp ?_
  rw [hp2]
  exact h w' _ (I.tok _) rw'
theorem dx_in {Q : Value → Shared → Prop} (W : KWOk X.K X.w) (hu : A.units + 1 < cLine) (I : Inv X pins σ H s) (g : DGX X.K H a y o) (ry : RelV y u) (h : ∀ s', Inv X pins σ H s' → Q (.bool o.isSome) s') :
    wpAny (model X.prog X.w) A (compareOp .In u (.ref a)) Q E s := by
  obtain ⟨kas, k, b, e, hk, ey, eb, l⟩ := g
  subst ey
  cases (show u = Value.ref b from ry)
  obtain ⟨hd, z, xs, rel, dd⟩ := dx_of W I e hk
  refine wpAny_in_heap (tupleKind_room_in1 hu) (key_sq I eb) hd dd ?_
  have q := (dx_val rel k).isSome_eq
  rw [Option.isSome_map] at q
  rw [← q, ← l]
  exact h _ (I.tok _)
theorem dx_notIn {Q : Value → Shared → Prop} (W : KWOk X.K X.w) (hu : A.units + 1 < cLine) (I : Inv X pins σ H s) (g : DGX X.K H a y o) (ry : RelV y u) (h : ∀ s', Inv X pins σ H s' → Q (.bool (!o.isSome)) s') :
    wpAny (model X.prog X.w) A (compareOp .NotIn u (.ref a)) Q E s := by
  obtain ⟨kas, k, b, e, hk, ey, eb, l⟩ := g
  subst ey
  cases (show u = Value.ref b from ry)
  obtain ⟨hd, z, xs, rel, dd⟩ := dx_of W I e hk
  refine wpAny_notIn_heap (tupleKind_room_in1 hu) (key_sq I eb) hd dd ?_
  have q := (dx_val rel k).isSome_eq
  rw [Option.isSome_map] at q
  rw [← q, ← l]
  exact h _ (I.tok _)
theorem putX_len (kas : List Ent) (k : List Key) (b : Addr) (v : V) : (putX kas k b v).length ≤ kas.length + 1 := by
  unfold putX
  split <;> simp
theorem dx_setItem {H' : Hp} {Q : Unit → Shared → Prop} (W : KWOk X.K X.w) (hu : A.units + 1 < cLine) (I : Inv X pins σ H s) (g : DPX X.K H a y v H') (ry : RelV y u) (rv : RelV v r) (h : ∀ s', Inv X pins σ H' s' → Q () s') :
    wpAny (model X.prog X.w) A (setItem (.ref a) u r) Q E s := by
  obtain ⟨kas, k, b, e, hk, ey, eb, l, eH⟩ := g
  subst ey eH
  cases (show u = Value.ref b from ry)
  obtain ⟨hd, z, xs, rel, dd⟩ := dx_of W I e hk
  have hz : xs.length ≤ sizeLine := by rw [← Paired.length rel]; exact z
  have hl : (putX kas k b v).length ≤ sizeLine := by have := putX_len kas k b v; omega
  refine wpAny_setItem_heap (hsz := hz) (tupleKind_room_in1 hu) (key_sq I eb) dd fun h' dd' hs => h _ ?_
  have he : ∃ q, h'.get? a = some q := let ⟨q, _, _, hq, _⟩ := dd'; ⟨q, hq⟩
  exact d_write I (by rw [e]; exact True.intro) hs he (dx_new (fun ks => W.hs X.prog ks) hd hl (dx_put rel k b rv) dd')
end
def tDGetX (K : PySem.W.Frag) (td ty : TE) : TE := fun σ H Q => td σ H fun x H1 => ty σ H1 fun y H2 => ∃ a v, x = .ref a ∧ DGX K H2 a y (some v) ∧ Q v H2
def tDInX (K : PySem.W.Frag) (ty td : TE) : TE := fun σ H Q => ty σ H fun y H1 => td σ H1 fun x H2 => ∃ a o, x = .ref a ∧ DGX K H2 a y o ∧ Q (.bl o.isSome) H2
def tDNotInX (K : PySem.W.Frag) (ty td : TE) : TE := fun σ H Q => ty σ H fun y H1 => td σ H1 fun x H2 => ∃ a o, x = .ref a ∧ DGX K H2 a y o ∧ Q (.bl (!o.isSome)) H2
def sDPutX (K : PySem.W.Frag) (td ty tv : TE) : TS := fun D σ H => tv σ H fun v H1 => td σ H1 fun x H2 => ty σ H2 fun y H3 => ∃ a H4, x = .ref a ∧ DPX K H3 a y v H4 ∧ D.nx σ H4
def tDNewX : TE := fun _ H Q => ∀ p, H p = none → Q (.ref p) (upd H p (dxo p []))
section
variable {X : Cx} {o i e value : Expr} {pos pos' tpos : Pos} {td ty tv : TE}
theorem dx_typeIs {pins : List (Addr × Obj)} {σ : L2.St} {H : Hp} {s : Shared} {a : Addr} {y : V} {ov : Option V} (I : Inv X pins σ H s) (g : DGX X.K H a y ov) : s.TypeIs (.ref a) "dict" := by
  obtain ⟨kas, k, b, e, _⟩ := g
  obtain ⟨⟨_, _, xs, _, ob, es, ep, h1, h2, _⟩, _⟩ := (show ObjOk X.prog X.w H s.heap a (dxo a kas) from I.hok a _ e)
  exact ⟨ob, h1, h2.1⟩
theorem pe_dgetX (W : KWOk X.K X.w) (hu : X.A.units + 1 < cLine) (ho : PE X o td) (hi : PE X i ty) (hs : NoSl i) : PE X (.Subscript o i pos) (tDGetX X.K td ty) := by
  refine ⟨fun pins s σ H Q I h => ?_⟩
  refine subD_of PySem.F.slot_dict_getitem.lookup hs (thn (ho.run pins s σ H _ I h) fun u s1 ⟨x, H1, I1, rx, q1⟩ => thn (hi.run pins s1 σ H1 _ I1 q1) fun iv s2 ⟨y, H2, I2, ry, a, v, ex, g, q2⟩ => ?_)
  subst ex
  obtain rfl : u = Value.ref a := rx
  exact ⟨dx_typeIs I2 g, dx_getItem W hu I2 g ry fun w' s3 I3 rw' => ⟨v, H2, I3, rw', q2⟩⟩
theorem pc_dinX (W : KWOk X.K X.w) (hu : X.A.units + 1 < cLine) (hi : PE X i ty) (ho : PE X o td) : PC X .In i o (tDInX X.K ty td) := by
  refine ⟨fun pins s σ H Q I h => ?_⟩
  refine thn (hi.run pins s σ H _ I h) fun iv s1 ⟨y, H1, I1, ry, q1⟩ => thn (ho.run pins s1 σ H1 _ I1 q1) fun u s2 ⟨x, H2, I2, rx, a, ov, ex, g, q2⟩ => ?_
  subst ex
  obtain rfl : u = Value.ref a := rx
  exact dx_in W hu I2 g ry fun s3 I3 => ⟨.bl ov.isSome, H2, I3, rfl, q2⟩
theorem pc_dnotinX (W : KWOk X.K X.w) (hu : X.A.units + 1 < cLine) (hi : PE X i ty) (ho : PE X o td) : PC X .NotIn i o (tDNotInX X.K ty td) := by
  refine ⟨fun pins s σ H Q I h => ?_⟩
  refine thn (hi.run pins s σ H _ I h) fun iv s1 ⟨y, H1, I1, ry, q1⟩ => thn (ho.run pins s1 σ H1 _ I1 q1) fun u s2 ⟨x, H2, I2, rx, a, ov, ex, g, q2⟩ => ?_
  subst ex
  obtain rfl : u = Value.ref a := rx
  exact dx_notIn W hu I2 g ry fun s3 I3 => ⟨.bl (!ov.isSome), H2, I3, rfl, q2⟩
theorem ps_dputX (W : KWOk X.K X.w) (hu : X.A.units + 1 < cLine) (ho : PE X o td) (hi : PE X i ty) (hv : PE X value tv) (hs : swapsWith value (some (.Subscript o i pos')) pos.line X.env = pure false) :
    PS X (.Assign [.Subscript o i pos'] value pos) (sDPutX X.K td ty tv) := by
  refine ⟨fun pins s σ H D I h => ?_⟩
  refine wpAny_Assign_Subscript (thn (hv.run pins s σ H _ I h) fun r s1 ⟨v, H1, I1, rv, q1⟩ => thn (ho.run pins s1 σ H1 _ I1 q1) fun u s2 ⟨x, H2, I2, rx, q2⟩ => thn (hi.run pins s2 σ H2 _ I2 q2) fun iv s3 ⟨y, H3, I3, ry, a, H4, ex, g, q3⟩ => ?_) hs
  subst ex
  obtain rfl : u = Value.ref a := rx
  exact dx_setItem W hu I3 g ry rv fun s4 I4 => ⟨σ, H4, I4, q3⟩
theorem pe_dnewX (W : KWOk X.K X.w) : PE X (.Dict [] [] pos) tDNewX := ⟨fun pins s σ H Q I h =>
  wpAny_Dict_empty ⟨.ref s.heap.objs.size, _, I.laid (a := s.heap.objs.size) (o := dxo s.heap.objs.size []) (t' := s.toks) (fun _ _ q => Heap.get?_push_of_some _ q) (Nat.le_refl _)
    (dx_new (xs := []) (fun ks => W.hs X.prog ks) (beq_eq_false_iff_ne.mpr (Ne.symm (Nat.ne_of_lt I.big))) (Nat.zero_le _) .nil ⟨_, #[], 0, Heap.get?_push_size _ rfl, ⟨rfl, rfl, rfl⟩, rfl, rfl, (fun x hx => nomatch hx), List.nodup_nil⟩), rfl, h _ (I.hok.fresh (Nat.le_refl _))⟩⟩
end
end LL

set_option Elab.async false
set_option linter.all false
set_option maxRecDepth 100000
set_option maxHeartbeats 400000
/-! LBkN: a list of nodes and the table of their rows, in the heap -/
namespace LL
open PySem PySem.Spec PyProof.Rows L2
variable [KW]
def tabG : Nat → List Nd → List (List Key × V)
  | _, [] => []
  | k, n :: ns => (n.keys, .int (k : Nat)) :: tabG (k + 1) ns
theorem tab_app : ∀ (k : Nat) (ns ms : List Nd), tabG k (ns ++ ms) = tabG k ns ++ tabG (k + ns.length) ms
  | k, [], ms => by rw [List.nil_append, List.length_nil, Nat.add_zero]; rfl
  | k, n :: ns, ms => by
    rw [List.cons_append, tabG, tab_app (k + 1) ns ms, tabG, List.cons_append, List.length_cons]
    rw [show k + 1 + ns.length = k + (ns.length + 1) from by omega]
theorem tab_len : ∀ (k : Nat) (ns : List Nd), (tabG k ns).length = ns.length
  | _, [] => rfl
  | k, n :: ns => by rw [tabG, List.length_cons, tab_len (k + 1) ns, List.length_cons]
theorem tab_val : ∀ (k : Nat) (ns : List Nd) (n : Nd), valV (tabG k ns) n.keys = if n ∈ ns then some (.int ((k + ns.idxOf n : Nat))) else none
  | k, [], n => by simp [tabG, valV]
  | k, m :: ns, n => by
    unfold tabG
    by_cases e : m = n
    · subst e
      unfold valV
      rw [List.find?_cons]
      simp [List.idxOf_cons]
    · have hk : ¬ m.keys = n.keys := fun z => e (keys_inj z)
      have e2 : (m == n) = false := by simpa using e
      have ih := tab_val (k + 1) ns n
      unfold valV at ih ⊢
      rw [List.find?_cons, decide_eq_false hk]
      show Option.map _ (List.find? _ (tabG (k + 1) ns)) = _
      rw [ih]
      have hm : (n ∈ m :: ns) ↔ n ∈ ns := by
        rw [List.mem_cons]
        exact ⟨fun z => z.resolve_left (fun y => e y.symm), .inr⟩
      by_cases h : n ∈ ns
      · rw [if_pos h, if_pos (hm.mpr h), List.idxOf_cons, e2]
        show some (V.int ((k + 1 + ns.idxOf n : Nat))) = some (V.int ((k + (ns.idxOf n + 1) : Nat)))
        rw [show k + 1 + ns.idxOf n = k + (ns.idxOf n + 1) from by omega]
      · rw [if_neg h, if_neg (fun z => h (hm.mp z))]
/-- a dict at T that holds kvs, its keys' tuples stand -/
structure Tab (M : List Addr) (H : Hp) (T : Addr) (kvs : List (List Key × V)) : Prop where
  ex : ∃ kas : List Ent, H T = some (dxo T kas) ∧ kas.map entKV = kvs ∧ ∀ p ∈ kas, Tp M H p.2.1 (p.1.map kV)
section
variable {M N : List Addr} {H H' : Hp} {T p b : Addr} {kvs : List (List Key × V)} {K : PySem.W.Frag} {w : World} {k : List Key} {v : V}
theorem Tab.adv (x : Tab M H T kvs) (a : Adv N H H') (hT : T ∉ N) (hn : ∀ b ∈ N, b ∈ M) : Tab M H' T kvs := by
  obtain ⟨kas, h1, h2, h3⟩ := x.ex
  exact ⟨⟨kas, a _ _ hT h1, h2, fun q hq => (h3 q hq).adv (a.more hn)⟩⟩
theorem Tab.same (x : Tab M H T kvs) (a : Adv [] H H') : Tab M H' T kvs := x.adv a (by simp) (by simp)
theorem Tab.fresh (x : Tab M H T kvs) (h : H p = none) : Tab (p :: M) H T kvs := by
  obtain ⟨kas, h1, h2, h3⟩ := x.ex
  exact ⟨⟨kas, h1, h2, fun q hq => (h3 q hq).fresh h⟩⟩
theorem Tab.less (x : Tab M H T kvs) (h : ∀ b ∈ N, b ∈ M) : Tab N H T kvs := by
  obtain ⟨kas, h1, h2, h3⟩ := x.ex
  exact ⟨⟨kas, h1, h2, fun q hq => (h3 q hq).less h⟩⟩
theorem Tab.new (h : H T = some (dxo T [])) : Tab M H T [] := ⟨⟨[], h, rfl, fun q hq => nomatch hq⟩⟩
theorem Tab.here (x : Tab M H T kvs) : H T ≠ none := by
  obtain ⟨kas, h1, _⟩ := x.ex
  rw [h1]; simp
theorem Tab.get (W : KWOk K w) (x : Tab M H T kvs) (hb : Tp N H b (k.map kV)) : DGX K H T (.ref b) (valV kvs k) := by
  obtain ⟨kas, h1, h2, h3⟩ := x.ex
  exact ⟨kas, k, b, h1, fun q hq => (h3 q hq).sq W, rfl, hb.sq W, by rw [h2]⟩
theorem putX_map (kas : List Ent) (k : List Key) (b : Addr) (v : V) : (putX kas k b v).map entKV = putK (kas.map entKV) k v := by
  have e : ((kas.map entKV).any fun kv => decide (kv.1 = k)) = kas.any fun p => decide (p.1 = k) := by rw [List.any_map]; rfl
  unfold putX putK
  rw [e]
  split
  · rw [List.map_map, List.map_map]
    refine List.map_congr_left fun q _ => ?_
    show entKV (if q.1 = k then _ else _) = (if (entKV q).1 = k then _ else _)
    by_cases z : q.1 = k
    · rw [if_pos z, if_pos z]
    · rw [if_neg z, if_neg z]
  · rw [List.map_append]; rfl
theorem Tab.put (W : KWOk K w) (x : Tab M H T kvs) (hb : Tp M H b (k.map kV)) (hl : kvs.length < sizeLine) (v : V) :
    ∃ kas' : List Ent, DPX K H T (.ref b) v (upd H T (dxo T kas')) ∧ kas'.map entKV = putK kvs k v ∧ ∀ q ∈ kas', Tp M H q.2.1 (q.1.map kV) := by
  obtain ⟨kas, h1, h2, h3⟩ := x.ex
  refine ⟨putX kas k b v, ⟨kas, k, b, h1, fun q hq => (h3 q hq).sq W, rfl, hb.sq W, by rw [← h2, List.length_map] at hl; exact hl, rfl⟩, by rw [putX_map, h2], fun q hq => ?_⟩
  unfold putX at hq
  split at hq
  · obtain ⟨p', hp', e⟩ := List.mem_map.mp hq
    by_cases z : p'.1 = k
    · rw [if_pos z] at e
      subst e
      exact h3 p' hp'
    · rw [if_neg z] at e
      subst e
      exact h3 p' hp'
  · rcases List.mem_append.mp hq with hq | hq
    · exact h3 q hq
    · rw [List.mem_singleton.mp hq]
      exact hb
/-- the table behind a store: told by its heap -/
theorem Tab.putH (W : KWOk K w) (x : Tab M H T kvs) (mT : T ∈ M) (hb : Tp M H b (k.map kV)) (hl : kvs.length < sizeLine) (v : V) :
    ∃ o : HO, DPX K H T (.ref b) v (upd H T o) ∧ Tab M (upd H T o) T (putK kvs k v) := by
  obtain ⟨kas', g, e, h⟩ := x.put W hb hl v
  exact ⟨_, g, ⟨⟨kas', upd_same, e, fun q hq => (h q hq).adv (Adv.set mT)⟩⟩⟩
end
/-- the list b0 of the nodes ns, the table b1 of their rows -/
structure BkN (M : List Addr) (H : Hp) (b0 b1 : Addr) (ns : List Nd) : Prop where
  rows : ∃ rs, H b0 = some (.lst rs) ∧ IsDs M H (ns.map Nd.data) rs
  tab : Tab M H b1 (tabG 0 ns)
  m0 : b0 ∈ M
  m1 : b1 ∈ M
  ne : b0 ≠ b1
  al : ∀ b ∈ M, H b ≠ none
theorem BkN.adv {M N : List Addr} {H H' : Hp} {b0 b1 : Addr} {ns : List Nd} (x : BkN M H b0 b1 ns) (a : Adv N H H') (h0 : b0 ∉ N) (h1 : b1 ∉ N) (hn : ∀ b ∈ N, b ∈ M) (hal : ∀ b ∈ N, H' b ≠ none) : BkN M H' b0 b1 ns := by
  obtain ⟨⟨rs, e, r⟩, t, m0, m1, ne, al⟩ := x
  exact ⟨⟨rs, a _ _ h0 e, r.adv (a.more hn)⟩, t.adv a h1 hn, m0, m1, ne, alloc_adv al a hal⟩
theorem BkN.same {M : List Addr} {H H' : Hp} {b0 b1 : Addr} {ns : List Nd} (x : BkN M H b0 b1 ns) (a : Adv [] H H') : BkN M H' b0 b1 ns := x.adv a (by simp) (by simp) (by simp) (by simp)
theorem BkN.fresh {M : List Addr} {H : Hp} {b0 b1 p : Addr} {ns : List Nd} (x : BkN M H b0 b1 ns) (h : H p = none) {o : HO} : BkN (p :: M) (upd H p o) b0 b1 ns := by
  have y := x.same (Adv.new (o := o) h)
  obtain ⟨⟨rs, e, r⟩, t, m0, m1, ne, al⟩ := x
  obtain ⟨_, _, _, _, _, al'⟩ := y
  have a : Adv [] H (upd H p o) := Adv.new h
  exact ⟨⟨rs, a.same _ _ e, (r.fresh h).adv (a.more (by simp))⟩, (t.fresh h).same a, by simp [m0], by simp [m1], ne, fun b hb => by
    rcases List.mem_cons.mp hb with z | hb
    · rw [z, upd_same]; simp
    · exact al' b hb⟩
theorem BkN.less {M N : List Addr} {H : Hp} {b0 b1 : Addr} {ns : List Nd} (x : BkN M H b0 b1 ns) (h : ∀ b ∈ N, b ∈ M) (m0 : b0 ∈ N) (m1 : b1 ∈ N) : BkN N H b0 b1 ns := by
  obtain ⟨⟨rs, e, r⟩, t, _, _, ne, al⟩ := x
  exact ⟨⟨rs, e, r.less h⟩, t.less h, m0, m1, ne, fun b hb => al b (h b hb)⟩
theorem ks_of {M : List Addr} {H : Hp} : ∀ (ks : List Key) (ws : List V), IsDs M H (ks.map keyDt) ws → ws = ks.map kV := by
  intro ks
  induction ks with
  | nil => intro ws y; unfold IsDs at y; exact y
  | cons c ks ih =>
    intro ws y
    rw [List.map_cons] at y
    unfold IsDs at y
    obtain ⟨u, r, rfl, h1, h2⟩ := y
    rw [ih r h2]
    cases c with
    | inl i => rw [h1.intE]; rfl
    | inr s => rw [h1.strE]; rfl
theorem nd_is {M : List Addr} {H : Hp} {n : Nd} {v : V} (x : Is M H n.data v) : ∃ a, v = .ref a ∧ Tp M H a (n.keys.map kV) := by
  obtain ⟨a, vs, rfl, ha, hs⟩ := x.tupE
  refine ⟨a, rfl, ?_⟩
  rw [← ks_of _ _ hs]
  exact ha
theorem nd_tp {M : List Addr} {H : Hp} {n : Nd} {a : Addr} (h : Tp M H a (n.keys.map kV)) : Is M H n.data (.ref a) := Is.tp h (ks_data _)
theorem tab_mem (k : Nat) (ns : List Nd) (n : Nd) : memK n.keys ((tabG k ns).map (·.1)) = decide (n ∈ ns) := by
  rw [← val_mem, tab_val]
  by_cases h : n ∈ ns
  · rw [if_pos h, decide_eq_true h]; rfl
  · rw [if_neg h, decide_eq_false h]; rfl
/-- a node is added at the end -/
theorem BkN.push {K : PySem.W.Frag} {w : World} (W : KWOk K w) {M : List Addr} {H : Hp} {b0 b1 a : Addr} {ns : List Nd} {n : Nd} {rs : List V} (x : BkN M H b0 b1 ns) (h0 : H b0 = some (.lst rs)) (ha : Tp M H a (n.keys.map kV)) (hm : n ∉ ns) (hl : ns.length < sizeLine) :
    ∃ o : HO, DPX K H b1 (.ref a) (.int (rs.length : Nat)) (upd H b1 o) ∧ BkN M (upd (upd H b1 o) b0 (.lst (rs ++ [.ref a]))) b0 b1 (ns ++ [n]) := by
  obtain ⟨⟨rs', e, r⟩, t, m0, m1, ne, al⟩ := x
  rw [h0] at e
  cases e
  have hrl := r.len
  rw [List.length_map] at hrl
  obtain ⟨o, g, t2⟩ := t.putH W m1 ha (by rw [tab_len]; exact hl) (.int (rs.length : Nat))
  refine ⟨o, g, ?_⟩
  have a1 : Adv [b0, b1] H (upd H b1 o) := Adv.set (by simp)
  have a2 : Adv [b0] (upd H b1 o) (upd (upd H b1 o) b0 (.lst (rs ++ [.ref a]))) := Adv.set (by simp)
  have aa : Adv [b0, b1] H (upd (upd H b1 o) b0 (.lst (rs ++ [.ref a]))) := a1.trans (a2.more (by simp))
  have mM : ∀ b ∈ [b0, b1], b ∈ M := by simp [m0, m1]
  refine ⟨⟨rs ++ [.ref a], upd_same, ?_⟩, ?_, m0, m1, ne, alloc_adv al aa fun b hb => ?_⟩
  · rw [List.map_append]
    exact (r.adv (aa.more mM)).app (IsDs.one (nd_tp (ha.adv (aa.more mM))))
  · rw [put_new _ _ _ (by rw [tab_mem]; exact decide_eq_false hm)] at t2
    have := t2.adv a2 (by simpa using ne.symm) (by simp [m0])
    rw [tab_app, Nat.zero_add, ← hrl]
    exact this
  · rcases List.mem_cons.mp hb with e | hb
    · rw [e, upd_same]; simp
    · rw [List.mem_singleton.mp hb, upd_ne ne.symm, upd_same]; simp
end LL

set_option Elab.async false
set_option linter.all false
set_option maxRecDepth 100000
set_option maxHeartbeats 400000
/-! LFilt: a filtered comprehension over a range; lists of marks -/
namespace LL
open PySem PySem.Spec PyProof.Rows L2
variable [KW]
def mbV (m : Nat → Bool) (n : Nat) : List V := (List.range n).map fun i => V.bl (m i)
section
variable {g : TG} {te : TE} {vs : List Nat} {σ : L2.St} {H1 : Hp} {D : Addr} {Qd : Hp → Prop}
end
end LL

set_option Elab.async false
set_option linter.all false
set_option maxRecDepth 100000
set_option maxHeartbeats 400000
/-! LNew: a dict from rows to rows -/
namespace LL
open PySem PySem.Spec PyProof.Rows L2
variable [KW]
def newT (l : List Nat) (f : Nat → Nat) : List (Key × V) := l.map fun (i : Nat) => (Sum.inl ((i : Nat) : Int), V.int ((f i : Nat) : Int))
end LL

set_option Elab.async false
set_option linter.all false
set_option maxRecDepth 100000
set_option maxHeartbeats 400000
/-! LStep: what a step of a reading keeps -/
namespace LL
open PySem PySem.Spec PyProof.Rows L2
variable [KW]
theorem denyF_pre (ns : List Nd) (r : Nat) : ns <+: (denyF ns r).2 := by
  unfold denyF
  exact (rowF_pre _ _).trans (rowF_pre _ _)
theorem stepF_pre (w : W3) (ns : List Nd) (i : Nat) (n : Nd) (f : Nat → Nat) : ns <+: (stepF w ns i n f).2 := by
  unfold stepF
  split
  · exact List.prefix_refl _
  · exact List.prefix_refl _
  · exact (denyF_pre _ _).trans (denyF_pre _ _)
  · exact rowF_pre _ _
  · exact (((denyF_pre _ _).trans (denyF_pre _ _)).trans (rowF_pre _ _)).trans (denyF_pre _ _)
  · exact (rowF_pre _ _).trans (rowF_pre _ _)
  · exact (rowF_pre _ _).trans (rowF_pre _ _)
  · exact rowF_pre _ _
theorem below_take {ns : List Nd} {rows : List Nat} {i r p : Nat} (hr : (belowF ns rows)[i]? = some r) (hp : p ∈ belowF ns rows) (hl : p < r) : p ∈ (belowF ns rows).take i := by
  have hs : (belowF ns rows).Pairwise (· < ·) := List.Pairwise.filter _ List.pairwise_lt_range
  obtain ⟨hi, e⟩ := List.getElem?_eq_some_iff.mp hr
  obtain ⟨j, hj, ej⟩ := List.getElem_of_mem hp
  rcases Nat.lt_or_ge j i with h | h
  · rw [← ej]
    exact List.mem_take_iff_getElem.mpr ⟨j, by omega, rfl⟩
  · rcases Nat.lt_or_eq_of_le h with h | h
    · have := List.pairwise_iff_getElem.mp hs i j hi hj h
      omega
    · subst h
      omega
end LL

set_option Elab.async false
set_option linter.all false
set_option maxRecDepth 100000
set_option maxHeartbeats 400000
/-! LRd: the readings of the constructs as lemmas by their heads, for a reading step by step -/
namespace LL
open PySem PySem.Spec PyProof.Rows L2
variable [KW]
section
variable {σ : L2.St} {H : Hp} {Q : VK} {B : Bool → Hp → Prop} {v x y : V} {ta tb te : TE} {K : PySem.W.Frag} {u t s : TS} {D : Ends} {N : L2.St → Hp → Prop}
theorem rd_var {i : Nat} (h : σ[i]? = some (some v)) (q : Q v H) : tVar i σ H Q := ⟨v, h, q⟩
theorem rd_c (q : Q v H) : tC v σ H Q := q
theorem rd_op {r : R2} (q : ta σ H fun x H1 => tb σ H1 fun y H2 => r x y H2 Q) : tOp r ta tb σ H Q := q
theorem rd_un {r : V → Hp → VK → Prop} (q : ta σ H fun x H1 => r x H1 Q) : tUn r ta σ H Q := q
theorem rd_eq (h : scal x y = true) (q : Q (.bl (decide (x = y))) H) : rEq x y H Q := ⟨h, q⟩
theorem rd_ne (h : scal x y = true) (q : Q (.bl (!decide (x = y))) H) : rNe x y H Q := ⟨h, q⟩
theorem rd_add {i j : Int} (q : Q (.int (i + j)) H) : rAdd (.int i) (.int j) H Q := ⟨i, j, rfl, rfl, q⟩
theorem rd_sub {i j : Int} (q : Q (.int (i - j)) H) : rSub (.int i) (.int j) H Q := ⟨i, j, rfl, rfl, q⟩
theorem rd_i0 {g : Int → Int → V} {i j : Int} (q : Q (g i j) H) : rI0 g (.int i) (.int j) H Q := ⟨i, j, rfl, rfl, q⟩
theorem rd_i {C : Int → Int → Prop} {g : Int → Int → V} {i j : Int} (h : C i j) (q : Q (g i j) H) : rI C g (.int i) (.int j) H Q := ⟨i, j, rfl, rfl, h, q⟩
theorem rd_isN (q : ta σ H fun x H1 => Q (.bl (decide (x = .non))) H1) : tIsN ta σ H Q := q
theorem rd_notN (q : ta σ H fun x H1 => Q (.bl (!decide (x = .non))) H1) : tNotN ta σ H Q := q
theorem rd_test (q : te σ H fun x H' => ∃ k, x = .bl k ∧ B k H') : tTest te σ H B := q
theorem rd_tB (q : te σ H fun x H' => ∃ k, x = .bl k ∧ B k H') : tB te σ H B := q
theorem rd_blP {k : Bool} {P : Bool → Prop} (q : P k) : ∃ c, V.bl k = .bl c ∧ P c := ⟨k, rfl, q⟩
theorem rd_and {a b : TT} (q : a σ H fun c H1 => if c = true then b σ H1 B else B false H1) : tAnd a b σ H B := q
theorem rd_or {a b : TT} (q : a σ H fun c H1 => if c = true then B true H1 else b σ H1 B) : tOr a b σ H B := q
theorem rd_not {a : TT} (q : a σ H fun c H1 => B (!c) H1) : tNot a σ H B := q
theorem rd_andV (q : ta σ H fun x H1 => ∃ c, x = .bl c ∧ if c = true then tb σ H1 Q else Q (.bl false) H1) : tAndV ta tb σ H Q := q
theorem rd_orV (q : ta σ H fun x H1 => ∃ c, x = .bl c ∧ if c = true then Q (.bl true) H1 else tb σ H1 Q) : tOrV ta tb σ H Q := q
theorem rd_notV (q : ta σ H fun x H1 => ∃ c, x = .bl c ∧ Q (.bl (!c)) H1) : tNotV ta σ H Q := q
theorem rd_ifE {c : TT} (q : c σ H fun b H1 => if b = true then ta σ H1 Q else tb σ H1 Q) : tIf c ta tb σ H Q := q
/-! statements -/
theorem rd_seq (q : t { D with nx := u D } σ H) : tSeq t u D σ H := q
theorem rd_nx {r : VK} {b c : L2.St → Hp → Prop} (q : N σ H) : tNext ⟨N, r, b, c⟩ σ H := q
theorem rd_ret (q : te σ H D.rt) : tRet te D σ H := q
theorem rd_retN (q : D.rt .non H) : tRetN D σ H := q
theorem rd_drop (q : te σ H fun _ H1 => D.nx σ H1) : tDrop te D σ H := q
theorem rd_asg {g : TG} (q : te σ H fun x H1 => g x σ H1 D.nx) : tAsg te g D σ H := q
theorem rd_gname {i : Nat} (q : N (σ.set i (some v)) H) : gName i v σ H N := q
theorem rd_gsub {i : TE} {f : TSet} (q : ta σ H fun o H1 => i σ H1 fun i H2 => f o i v H2 fun H3 => N σ H3) : gSub ta i f v σ H N := q
theorem rd_gtup {g : TGs} {a : Addr} {n : Nat} {xs : List V} (h : SqT K H a xs) (hl : xs.length = n) (q : g xs σ H N) : gTup K n g (.ref a) σ H N := ⟨a, xs, rfl, h, hl, q⟩
theorem rd_gcons {g : TG} {g' : TGs} {r : List V} (q : g v σ H fun σ' H' => g' r σ' H' N) : gCons g g' (v :: r) σ H N := ⟨v, r, rfl, q⟩
theorem rd_gnil (q : N σ H) : gNil [] σ H N := ⟨rfl, q⟩
theorem rd_ifS {c : TT} (q : c σ H fun b H1 => if b = true then t D σ H1 else u D σ H1) : tIfS c t u D σ H := q
theorem rd_par {i j : Nat} {tt : TA} (q : tt σ H fun vs H1 => ∃ v w, vs = [v, w] ∧ D.nx ((σ.set i (some v)).set j (some w)) H1) : tPar i j tt D σ H := q
theorem rd_two {P : V → V → Prop} (q : P v x) : ∃ a b, [v, x] = [a, b] ∧ P a b := ⟨v, x, rfl, q⟩
theorem rd_par3 {i j l : Nat} {tt : TA} (q : tt σ H fun vs H1 => ∃ u v w, vs = [u, v, w] ∧ D.nx (((σ.set i (some u)).set j (some v)).set l (some w)) H1) : tPar3 i j l tt D σ H := q
theorem rd_three {z : V} {P : V → V → V → Prop} (q : P v x z) : ∃ a b c, [v, x, z] = [a, b, c] ∧ P a b c := ⟨v, x, z, rfl, q⟩
theorem rd_int1 {P : Int → Prop} {R : Prop} {i : Int} (q : P i) : (∃ j, [V.int i] = [V.int j] ∧ P j) ∨ R := .inl ⟨i, rfl, q⟩
theorem rd_for {wi : TI} {g : TG} {tb : TS} (q : wi σ H fun J H1 => ∃ W : Nat → Nat → L2.St → Hp → Prop, (∃ m, W 0 m σ H1) ∧ ∀ i m σ H, W i m σ H →
    (J.stop i H ∧ D.nx σ H) ∨ (J.go i H ∧ ∃ N : L2.St → Hp → Prop, (∀ σ' H', N σ' H' → ∃ m', m' < m ∧ W (i + 1) m' σ' H') ∧ ∀ x H', J.yld i H x H' → g x σ H' fun σ2 H2 => tb { D with nx := N, ct := N, bk := D.nx } σ2 H2)) : tFor wi g tb D σ H := q
theorem rd_rng1 {ta : TA} {R : It → Hp → Prop} (q : ta σ H fun vs H1 => ∃ j : Int, vs = [.int j] ∧ -(2 ^ 62) ≤ j ∧ j < 2 ^ 62 ∧ R (Itr 0 j.toNat) H1) : iRng1 ta σ H R := q
theorem rd_rng2 {ta : TA} {R : It → Hp → Prop} (q : ta σ H fun vs H1 => ∃ i j : Int, vs = [.int i, .int j] ∧ (-(2 ^ 62) ≤ i ∧ i < 2 ^ 62 ∧ -(2 ^ 62) ≤ j ∧ j < 2 ^ 62) ∧ R (Itr i (j - i).toNat) H1) : iRng2 ta σ H R := q
theorem rd_ints1 {P : Int → Prop} {i : Int} (q : P i) : ∃ j, [V.int i] = [V.int j] ∧ P j := ⟨i, rfl, q⟩
theorem rd_ints2 {P : Int → Int → Prop} {i j : Int} (q : P i j) : ∃ a b, [V.int i, V.int j] = [V.int a, V.int b] ∧ P a b := ⟨i, j, rfl, q⟩
/-! arguments, displays -/
theorem rd_nil {A : List V → Hp → Prop} (q : A [] H) : tNil σ H A := q
theorem rd_cons {tr : TA} {A : List V → Hp → Prop} (q : ta σ H fun x H1 => tr σ H1 fun xs H2 => A (x :: xs) H2) : tCons ta tr σ H A := q
theorem rd_tup {tt : TA} (q : tt σ H fun xs H1 => xs.length ≤ sizeLine ∧ ∀ p, H1 p = none → Q (.ref p) (upd H1 p (.tup xs))) : tTup tt σ H Q := q
theorem rd_lst {tt : TA} (q : tt σ H fun xs H1 => xs.length ≤ sizeLine ∧ ∀ p, H1 p = none → Q (.ref p) (upd H1 p (.lst xs))) : tLst tt σ H Q := q
theorem rd_call {sp : Sp} {dvs : List V} {E : XK} {tt : TA} (q : tt σ H fun vs H1 => sp (vs ++ dvs) H1 Q E) : tCall sp dvs E tt σ H Q := q
theorem rd_make {C : Addr} {sp : Sp} {dvs : List V} {E : XK} {tt : TA} (q : tt σ H fun vs H1 => ∀ x dx, H1 x = none → H1 dx = none → dx ≠ x → sp (.ref x :: (vs ++ dvs)) (upd (upd H1 dx (.own x)) x (.ins C dx [])) (fun v H2 => v = .non ∧ Q (.ref x) H2) E) : tMake C sp dvs E tt σ H Q := q
theorem rd_callS {sp : Sp} {E : L2.St → XK} {tt : TA} (q : tt σ H fun vs H1 => sp vs H1 Q (E σ)) : tCallS sp E tt σ H Q := q
theorem rd_cb {r : List V → Hp → VK → Prop} {tt : TA} (q : tt σ H fun vs H1 => r vs H1 Q) : tCB r tt σ H Q := q
theorem rd_meth {C : Addr} {m : Str} {sp : Sp} {dvs : List V} {E : XK} {tt : TA} (q : ta σ H fun x H1 => ∃ a dx fs, x = .ref a ∧ H1 a = some (.ins C dx fs) ∧ fs.lookup m = none ∧ tt σ H1 fun vs H2 => sp (x :: (vs ++ dvs)) H2 Q E) : tMeth C m sp dvs E ta tt σ H Q := q
theorem rd_fld {f : Str} (q : ta σ H fun x H1 => ∃ a C dx fs v, x = .ref a ∧ H1 a = some (.ins C dx fs) ∧ Cls K C ∧ NoAttr K C f ∧ fs.lookup f = some v ∧ Q v H1) : tFld K ta f σ H Q := q
theorem rd_part {Z : Option Int → Hp → Prop} (q : te σ H fun x H1 => ∃ i, x = .int i ∧ Z (some i) H1) : tPart te σ H Z := q
theorem rd_nopart {Z : Option Int → Hp → Prop} (q : Z none H) : tNoPart σ H Z := q
theorem rd_int {P : Int → Prop} {i : Int} (q : P i) : ∃ j, V.int i = .int j ∧ P j := ⟨i, rfl, q⟩
theorem rd_sl {r : V → Option Int → Option Int → Hp → VK → Prop} {tl th : TO} (q : te σ H fun x H1 => tl σ H1 fun l H2 => th σ H2 fun u H3 => r x l u H3 Q) : tSl r te tl th σ H Q := q
theorem rd_bm {T : String} {r : V → List V → Hp → VK → Prop} {tt : TA} (q : te σ H fun x H1 => tyV K T x H1 ∧ tt σ H1 fun xs H2 => r x xs H2 Q) : tBM K T r te tt σ H Q := q
theorem rd_bm0 {T : String} {r : V → List V → Hp → VK → Prop} (q : te σ H fun x H1 => tyV K T x H1 ∧ r x [] H1 Q) : tBM0 K T r te σ H Q := q
theorem rd_tyL {a : Addr} {xs : List V} {T : Prop} (h : H a = some (.lst xs)) (q : T) : tyV K "list" (.ref a) H ∧ T := ⟨.inl ⟨rfl, _, SqL.of h⟩, q⟩
/-! readings of the heap -/
theorem rd_slL {a : Addr} {xs : List V} {lo hi : Option Int} (h : H a = some (.lst xs)) (q : ∀ p, H p = none → Q (.ref p) (upd H p (.lst (cutV xs lo hi)))) : rSlL K (.ref a) lo hi H Q := ⟨a, xs, rfl, SqL.of h, q⟩
theorem rd_cat {l b : Addr} {xs zs : List V} (h : H l = some (.lst xs)) (h2 : H b = some (.lst zs)) (hl : xs.length + zs.length ≤ sizeLine) (q : ∀ p, H p = none → Q (.ref p) (upd H p (.lst (xs ++ zs)))) : rCat (.ref l) (.ref b) H Q := ⟨l, b, xs, zs, rfl, rfl, h, h2, hl, q⟩
theorem rd_u {g : Int → V} {i : Int} (q : Q (g i) H) : rU g (.int i) H Q := ⟨i, rfl, q⟩
theorem rd_ixL {p : Addr} {xs : List V} {i : Int} (h : H p = some (.lst xs)) (e : atI xs i = some v) (q : Q v H) : rIxL K (.ref p) (.int i) H Q := ⟨p, xs, i, v, rfl, rfl, SqL.of h, e, q⟩
theorem rd_ixT {p : Addr} {xs : List V} {i : Int} (h : SqT K H p xs) (e : atI xs i = some v) (q : Q v H) : rIxT K (.ref p) (.int i) H Q := ⟨p, xs, i, v, rfl, rfl, h, e, q⟩
theorem rd_lenT {xs : List V} {p : Addr} {P : List V → Prop} (h : SqT K H p xs) (q : P xs) : ∃ (p' : Addr) (xs' : List V), [V.ref p] = [V.ref p'] ∧ (SqL K H p' xs' ∨ SqT K H p' xs') ∧ P xs' := ⟨p, xs, rfl, .inr h, q⟩
theorem rd_len {xs : List V} {p : Addr} {P : List V → Prop} (h : H p = some (.lst xs)) (q : P xs) : ∃ (p' : Addr) (xs' : List V), [V.ref p] = [V.ref p'] ∧ (SqL K H p' xs' ∨ SqT K H p' xs') ∧ P xs' := ⟨p, xs, rfl, .inl (SqL.of h), q⟩
theorem rd_app {l : Addr} {xs : List V} (h : H l = some (.lst xs)) (hl : xs.length < sizeLine) (q : Q .non (upd H l (.lst (xs ++ [y])))) : rAppend (.ref l) [y] H Q := ⟨l, xs, y, rfl, rfl, h, hl, q⟩
theorem rd_dgetT {td ty : TE} (q : td σ H fun x H1 => ty σ H1 fun y H2 => ∃ a v, x = .ref a ∧ DGet H2 a y (some v) ∧ Q v H2) : tDGet td ty σ H Q := q
theorem rd_din {td ty : TE} (q : ty σ H fun y H1 => td σ H1 fun x H2 => ∃ a o, x = .ref a ∧ DGet H2 a y o ∧ Q (.bl o.isSome) H2) : tDIn ty td σ H Q := q
theorem rd_dnin {td ty : TE} (q : ty σ H fun y H1 => td σ H1 fun x H2 => ∃ a o, x = .ref a ∧ DGet H2 a y o ∧ Q (.bl (!o.isSome)) H2) : tDNotIn ty td σ H Q := q
end
theorem rd_rfl {α : Type} {x : α} {T : Prop} (q : T) : x = x ∧ T := ⟨rfl, q⟩
theorem Adv.get' {M : List Addr} {H H' : Hp} {p : Addr} {o : HO} (a : Adv M H H') (e : H p = some o) (hp : p ∉ M) : H' p = some o := a p o hp e
theorem notin2 {a b c : Addr} (h : a ≠ b) (h' : a ≠ c) : a ∉ [b, c] := by simp [h, h']
theorem notin1 {a b : Addr} (h : a ≠ b) : a ∉ [b] := by simp [h]
theorem notin0 {a : Addr} : a ∉ ([] : List Addr) := by simp
end LL

set_option Elab.async false
set_option linter.all false
set_option maxRecDepth 100000
set_option maxHeartbeats 400000
/-! LDue: the answers of the three readings, in plain words -/
namespace LL
open PySem PySem.Spec PyProof.Rows L2
variable [KW]
def W3.boxes : W3 → Bool
  | .dou => true
  | _ => false
def lenD : PyData → Nat
  | .list ds => ds.length
  | _ => 0
/-- the grown sheet and the rows' readings -/
def readA (w : W3) (ns : List Nd) (row : Nat) : List Nd × (Nat → Nat) := readF w ns (belowF ns [row]) ns (fun _ => 0)
/-- what is due -/
inductive Due (w : W3) (d r : PyData) : PyData → Prop
  | sheet (i : Int) (h : wrongD 5000 w.boxes d = some i) : Due w d r (.tuple [.str "BadSheet", .int i])
  | value (h : wrongD 5000 w.boxes d = none) (h2 : isNum 0 ((lenD d : Int) - 1) r = false) : Due w d r (.tuple [.str "BadValue", .str "row"])
  | told (ns : List Nd) (row : Nat) (h : wrongD 5000 w.boxes d = none) (hd : d = .list (ns.map Nd.data)) (ok : okSheet w.boxes ns) (hl : ns.length ≤ 5000) (hr : r = .int row) (hlt : row < ns.length) :
      Due w d r (.tuple [.str "told", .tuple [.list ((readA w ns row).1.map Nd.data), .int ((readA w ns row).2 row : Nat)]])
theorem nd_sz (n : Nd) : sz n.data ≤ 4 := by
  unfold Nd.data
  rw [sz_tup, ks_sz]
  cases n <;> simp [Nd.keys]
theorem nds_sz (ns : List Nd) : szL (ns.map Nd.data) ≤ 4 * ns.length := by
  induction ns with
  | nil => rw [List.map_nil, szL_nil]; exact Nat.zero_le _
  | cons n ns ih =>
    rw [List.map_cons, szL_cons, List.length_cons]
    have := nd_sz n
    omega
end LL

set_option Elab.async false
set_option linter.all false
set_option maxRecDepth 100000
set_option maxHeartbeats 400000
/-! LDw: a stream s and a book bk (a list b0 of nodes, their table b1) while formulas are drawn -/
namespace LL
open PySem PySem.Spec PyProof.Rows L2
variable [KW]
structure Dw (M : List Addr) (H : Hp) (s bk b0 b1 : Addr) (bx : Bool) (ns : List Nd) : Prop where
  str : StrAt M H s
  hbk : H bk = some (.lst [.ref b0, .ref b1])
  ms : s ∈ M
  kM : bk ∉ M
  s0 : s ≠ b0
  s1 : s ≠ b1
  B : BkN M H b0 b1 ns
  ok : okSheet bx ns
section
variable {M N : List Addr} {H H' : Hp} {s bk b0 b1 p : Addr} {bx : Bool} {ns : List Nd} {o : HO}
theorem Dw.ks (x : Dw M H s bk b0 b1 bx ns) : bk ∉ [s] := by simp; exact fun z => x.kM (by rw [z]; exact x.ms)
theorem Dw.kb (x : Dw M H s bk b0 b1 bx ns) : bk ∉ [b0, b1] := fun z => by
  rcases List.mem_cons.mp z with z | z
  · exact x.kM (by rw [z]; exact x.B.m0)
  · exact x.kM (by rw [List.mem_singleton.mp z]; exact x.B.m1)
theorem Dw.next (x : Dw M H s bk b0 b1 bx ns) (a : Adv [s] H H') (hs : StrAt M H' s) : Dw M H' s bk b0 b1 bx ns :=
  ⟨hs, a _ _ x.ks x.hbk, x.ms, x.kM, x.s0, x.s1, x.B.adv a (by simpa using x.s0.symm) (by simpa using x.s1.symm) (by simp [x.ms]) (by simpa using hs.here), x.ok⟩
theorem Dw.same (x : Dw M H s bk b0 b1 bx ns) (a : Adv [] H H') : Dw M H' s bk b0 b1 bx ns :=
  ⟨x.str.same a, a.same _ _ x.hbk, x.ms, x.kM, x.s0, x.s1, x.B.same a, x.ok⟩
theorem Dw.free (x : Dw M H s bk b0 b1 bx ns) (h : H p = none) : p ∉ M ∧ p ≠ s ∧ p ≠ bk ∧ p ≠ b0 ∧ p ≠ b1 := by
  have hm : p ∉ M := fun z => x.B.al p z h
  refine ⟨hm, fun z => hm (by rw [z]; exact x.ms), fun z => ?_, fun z => hm (by rw [z]; exact x.B.m0), fun z => hm (by rw [z]; exact x.B.m1)⟩
  rw [z, x.hbk] at h; cases h
theorem Dw.fresh (x : Dw M H s bk b0 b1 bx ns) (h : H p = none) : Dw (p :: M) (upd H p o) s bk b0 b1 bx ns := by
  have hf := x.free h
  exact ⟨(x.str.fresh h).same (Adv.new h), by rw [upd_ne hf.2.2.1.symm]; exact x.hbk, by simp [x.ms], by simp [hf.2.2.1.symm, x.kM], x.s0, x.s1, x.B.fresh h, x.ok⟩
theorem Dw.less (x : Dw M H s bk b0 b1 bx ns) (h : ∀ b ∈ N, b ∈ M) (ms : s ∈ N) (m0 : b0 ∈ N) (m1 : b1 ∈ N) : Dw N H s bk b0 b1 bx ns :=
  ⟨x.str.less h, x.hbk, ms, fun z => x.kM (h _ z), x.s0, x.s1, x.B.less h m0 m1, x.ok⟩
/-- an object of M that is neither the stream nor the book is changed -/
theorem Dw.put (x : Dw M H s bk b0 b1 bx ns) (hp : p ∈ M) (n0 : p ≠ s) (n1 : p ≠ b0) (n2 : p ≠ b1) : Dw M (upd H p o) s bk b0 b1 bx ns := by
  have a : Adv [p] H (upd H p o) := Adv.set (by simp)
  have kp : bk ≠ p := fun z => x.kM (by rw [z]; exact hp)
  exact ⟨x.str.adv a (by simpa using n0.symm) (by simp [hp]), by rw [upd_ne kp]; exact x.hbk, x.ms, x.kM, x.s0, x.s1, x.B.adv a (by simpa using n1.symm) (by simpa using n2.symm) (by simp [hp]) (by simp [upd_same]), x.ok⟩
theorem Dw.row {n : Nd} (x : Dw M H s bk b0 b1 bx ns) (hn : n.ok bx ns.length = true) (a : Adv [b0, b1] H H') (B : BkN M H' b0 b1 (rowF ns n).2) : Dw M H' s bk b0 b1 bx (rowF ns n).2 :=
  ⟨x.str.adv a (notin2 x.s0 x.s1) (by simp [x.B.m0, x.B.m1]), a _ _ x.kb x.hbk, x.ms, x.kM, x.s0, x.s1, B, rowF_ok x.ok hn⟩
theorem a_s {b : Addr} {c : Addr} (a : Adv [s] H H') : Adv [s, b, c] H H' := a.more (by simp)
theorem a_b {b c : Addr} (a : Adv [b, c] H H') : Adv [s, b, c] H H' := a.more (by simp +contextual)
end
/-- what a draw hands back -/
structure Dn (c : Nat) (M : List Addr) (s bk b0 b1 : Addr) (bx : Bool) (ns : List Nd) (H : Hp) (r : Nat) (ns' : List Nd) (H' : Hp) : Prop where
  pre : ns <+: ns'
  lt : r < ns'.length
  le : ns'.length ≤ ns.length + c
  D : Dw M H' s bk b0 b1 bx ns'
  a : Adv [s, b0, b1] H H'
theorem Dn.ge {c : Nat} {M : List Addr} {s bk b0 b1 : Addr} {bx : Bool} {ns : List Nd} {H : Hp} {r : Nat} {ns' : List Nd} {H' : Hp} (x : Dn c M s bk b0 b1 bx ns H r ns' H') : ns.length ≤ ns'.length := x.pre.length_le
end LL

set_option Elab.async false
set_option linter.all false
set_option maxRecDepth 100000
set_option maxHeartbeats 400000
/-! LOk: a reading keeps a sheet right -/
namespace LL
open PySem PySem.Spec PyProof.Rows L2
variable [KW]
theorem denyF_ok {bx : Bool} {ns : List Nd} {r : Nat} (ok : okSheet bx ns) (h : r < ns.length) : okSheet bx (denyF ns r).2 ∧ (denyF ns r).1 < (denyF ns r).2.length := by
  have o1 : okSheet bx (rowF ns .no).2 := rowF_ok ok rfl
  have l1 := rowF_lt ns .no
  have p1 := (rowF_pre ns .no).length_le
  unfold denyF
  exact ⟨rowF_ok o1 (by simp only [Nd.ok, Bool.and_eq_true, decide_eq_true_eq]; omega), rowF_lt _ _⟩
theorem moved_ok {bx : Bool} {ns : List Nd} {n : Nd} {f : Nat → Nat} {i : Nat} (hn : n.ok bx i = true) (hf : ∀ p ∈ n.parts, f p < ns.length) : (n.moved f).ok bx ns.length = true := by
  cases n with
  | no => rfl
  | letter j => exact hn
  | bin o j k =>
    simp only [Nd.moved, Nd.ok, Bool.and_eq_true, decide_eq_true_eq]
    exact ⟨hf j (by simp [Nd.parts]), hf k (by simp [Nd.parts])⟩
  | box j =>
    simp only [Nd.moved, Nd.ok, Bool.and_eq_true, decide_eq_true_eq] at hn ⊢
    exact ⟨hn.1, hf j (by simp [Nd.parts])⟩
theorem step1 {bx : Bool} {ns : List Nd} {n : Nd} (ok : okSheet bx ns) (hn : n.ok bx ns.length = true) : okSheet bx (rowF ns n).2 ∧ (rowF ns n).1 < (rowF ns n).2.length ∧ ns.length ≤ (rowF ns n).2.length :=
  ⟨rowF_ok ok hn, rowF_lt _ _, (rowF_pre ns n).length_le⟩
theorem stepF_ok {w : W3} {bx : Bool} {ns : List Nd} {n : Nd} {i : Nat} {f : Nat → Nat} (hw : w = .neg ∨ bx = true) (ok : okSheet bx ns) (hn : n.ok bx i = true) (hi : i < ns.length) (hf : ∀ p ∈ n.parts, f p < ns.length) :
    okSheet bx (stepF w ns i n f).2 ∧ (stepF w ns i n f).1 < (stepF w ns i n f).2.length := by
  have hm := moved_ok (ns := ns) hn hf
  have plain : okSheet bx (rowF ns (n.moved f)).2 ∧ (rowF ns (n.moved f)).1 < (rowF ns (n.moved f)).2.length := ⟨(step1 ok hm).1, (step1 ok hm).2.1⟩
  unfold stepF
  split
  · exact ⟨ok, hi⟩
  · exact ⟨ok, hi⟩
  · obtain ⟨o1, l1⟩ := denyF_ok ok hi
    exact denyF_ok o1 l1
  · rcases hw with hw | hw
    · cases hw
    · have := step1 ok (n := .box i) (by simp only [Nd.ok, Bool.and_eq_true, decide_eq_true_eq]; exact ⟨hw, hi⟩)
      exact ⟨this.1, this.2.1⟩
  · rename_i j k
    have hj := hf j (by simp [Nd.parts])
    have hk := hf k (by simp [Nd.parts])
    obtain ⟨o1, l1⟩ := denyF_ok ok hj
    have p1 := (denyF_pre ns (f j)).length_le
    obtain ⟨o2, l2⟩ := denyF_ok o1 (r := f k) (by omega)
    have p2 := (denyF_pre (denyF ns (f j)).2 (f k)).length_le
    obtain ⟨o3, l3, p3⟩ := step1 o2 (n := .bin .and (denyF ns (f j)).1 (denyF (denyF ns (f j)).2 (f k)).1) (by simp only [Nd.ok, Bool.and_eq_true, decide_eq_true_eq]; omega)
    exact denyF_ok o3 l3
  · rename_i j k
    obtain ⟨o1, l1, p1⟩ := step1 ok (n := .bin .imp (f j) (f k)) hm
    rcases hw with hw | hw
    · cases hw
    · have := step1 o1 (n := .box (rowF ns (.bin .imp (f j) (f k))).1) (by simp only [Nd.ok, Bool.and_eq_true, decide_eq_true_eq]; exact ⟨hw, l1⟩)
      exact ⟨this.1, this.2.1⟩
  · rename_i j
    have hj := hf j (by simp [Nd.parts])
    obtain ⟨o1, l1, p1⟩ := step1 ok (n := .box (f j)) hm
    have := step1 o1 (n := .bin .and (f j) (rowF ns (.box (f j))).1) (by simp only [Nd.ok, Bool.and_eq_true, decide_eq_true_eq]; omega)
    exact ⟨this.1, this.2.1⟩
  · exact plain
theorem readF_ok {w : W3} {bx : Bool} {old : List Nd} (hw : w = .neg ∨ bx = true) (oo : okSheet bx old) : ∀ (l : List Nat) (ns : List Nd) (f : Nat → Nat) (done : List Nat), okSheet bx ns → old.length ≤ ns.length → (∀ i ∈ done, f i < ns.length) →
    (∀ i ∈ l, i < old.length) → (∀ (a : List Nat) (i : Nat) (b : List Nat) (n : Nd), l = a ++ i :: b → old[i]? = some n → ∀ p ∈ n.parts, p ∈ done ++ a) → okSheet bx (readF w old l ns f).1
  | [], ns, f, done, ok, _, _, _, _ => ok
  | i :: l, ns, f, done, ok, hl, hd, hi, hp => by
    have hil := hi i List.mem_cons_self
    have hni : old[i]? = some old[i] := List.getElem?_eq_getElem hil
    have hs := stepF_ok (w := w) (ns := ns) (n := old[i]) (i := i) (f := f) hw ok (oo.2 i _ hni) (by omega) (fun p hp' => hd p (by have := hp [] i l _ rfl hni p hp'; simpa using this))
    have hpre := (stepF_pre w ns i old[i] f).length_le
    unfold readF
    rw [hni]
    refine readF_ok hw oo l _ _ (done ++ [i]) hs.1 (by show old.length ≤ (stepF w ns i old[i] f).2.length; omega) (fun j hj => ?_) (fun j hj => hi j (List.mem_cons_of_mem _ hj)) (fun a j b n e hn p hp' => ?_)
    · show (if j = i then (stepF w ns i old[i] f).1 else f j) < (stepF w ns i old[i] f).2.length
      by_cases e : j = i
      · rw [if_pos e]; exact hs.2
      · rw [if_neg e]
        rcases List.mem_append.mp hj with hj | hj
        · have := hd j hj; omega
        · exact absurd (List.mem_singleton.mp hj) e
    · have := hp (i :: a) j b n (by rw [e]; rfl) hn p hp'
      rw [List.append_assoc]
      exact this
theorem readA_ok {w : W3} {bx : Bool} {ns : List Nd} {row : Nat} (hw : w = .neg ∨ bx = true) (ok : okSheet bx ns) : okSheet bx (readA w ns row).1 := by
  refine readF_ok hw ok _ ns _ [] ok (Nat.le_refl _) (fun i hi => nomatch hi) (fun i hi => (below_mem.mp hi).1) (fun a i b n e hn p hp => ?_)
  have hm : i ∈ belowF ns [row] := by rw [e]; simp
  obtain ⟨h1, h2⟩ := below_parts ok hm hn p hp
  have hr : (belowF ns [row])[a.length]? = some i := by rw [e]; simp
  have := below_take hr h1 h2
  rw [e, List.take_append_of_le_length (Nat.le_refl _), List.take_length] at this
  simpa using this
theorem Dw.read {M : List Addr} {H H' : Hp} {s bk b0 b1 : Addr} {bx : Bool} {ns : List Nd} {w : W3} {row : Nat} (x : Dw M H s bk b0 b1 bx ns) (hw : w = .neg ∨ bx = true) (a : Adv [b0, b1] H H') (B : BkN M H' b0 b1 (readA w ns row).1) : Dw M H' s bk b0 b1 bx (readA w ns row).1 :=
  ⟨x.str.adv a (notin2 x.s0 x.s1) (by simp [x.B.m0, x.B.m1]), a _ _ x.kb x.hbk, x.ms, x.kM, x.s0, x.s1, B, readA_ok hw x.ok⟩
/-- a new book -/
theorem Dw.new {M : List Addr} {H : Hp} {s b0 b1 bk : Addr} {bx : Bool} (hs : StrAt M H s) (ms : s ∈ M) (hal : ∀ b ∈ M, H b ≠ none) (n0 : H b0 = none) (n1 : (upd H b0 (.lst [])) b1 = none) (nk : (upd (upd H b0 (.lst [])) b1 (dxo b1 [])) bk = none) :
    Dw (b1 :: b0 :: M) (upd (upd (upd H b0 (.lst [])) b1 (dxo b1 [])) bk (.lst [.ref b0, .ref b1])) s bk b0 b1 bx [] := by
  have e01 : b0 ≠ b1 := ne_of_none (upd_same (H := H)) n1
  have a0 : Adv [] H (upd H b0 (.lst [])) := Adv.new n0
  have a1 : Adv [] (upd H b0 (.lst [])) (upd (upd H b0 (.lst [])) b1 (dxo b1 [])) := Adv.new n1
  have a2 : Adv [] _ (upd (upd (upd H b0 (.lst [])) b1 (dxo b1 [])) bk (.lst [.ref b0, .ref b1])) := Adv.new nk
  have h0 : (upd (upd H b0 (.lst [])) b1 (dxo b1 [])) b0 = some (.lst []) := a1.same _ _ upd_same
  have h1 : (upd (upd H b0 (.lst [])) b1 (dxo b1 [])) b1 = some (dxo b1 []) := upd_same
  have k0 : bk ≠ b0 := (ne_of_none h0 nk).symm
  have k1 : bk ≠ b1 := (ne_of_none h1 nk).symm
  have nkH : H bk = none := a0.free (by simp) (a1.free (by simp) nk)
  have s0 : s ≠ b0 := fun z => hal s ms (by rw [z]; exact n0)
  have s1 : s ≠ b1 := fun z => hal s ms (by rw [z]; exact a0.free (by simp) n1)
  refine ⟨(((hs.fresh n0).same a0).fresh n1).same (a1.trans a2), upd_same, by simp [ms], fun z => ?_, s0, s1, ⟨⟨[], a2.same _ _ h0, .nil⟩, (Tab.new h1).same a2, by simp, by simp, e01, fun b hb => ?_⟩, ⟨List.nodup_nil, fun i n hi => by simp at hi⟩⟩
  · rcases List.mem_cons.mp z with z | z
    · exact k1 z
    · rcases List.mem_cons.mp z with z | z
      · exact k0 z
      · exact hal bk z nkH
  · rcases List.mem_cons.mp hb with z | hb
    · rw [z, a2.same _ _ h1]; simp
    · rcases List.mem_cons.mp hb with z | hb
      · rw [z, a2.same _ _ h0]; simp
      · cases e : H b with
        | none => exact absurd e (hal b hb)
        | some o => rw [((a0.trans a1).trans a2).same _ _ e]; simp
theorem nd_dep (n : Nd) : dep n.data ≤ 1 := by
  unfold Nd.data
  rw [dep_tup, ks_dep]
  omega
/-! ### small data -/
def scV : V → Bool
  | .non => true
  | .bl _ => true
  | .int _ => true
  | .str _ => true
  | _ => false
def scD : V → PyData
  | .bl b => .bool b
  | .int i => .int i
  | .str x => .str x
  | _ => .none
theorem sc_is {M : List Addr} {H : Hp} {v : V} (h : scV v = true) : Is M H (scD v) v := by
  cases v with
  | non => exact Is.non
  | bl b => exact Is.bl
  | int i => exact Is.int
  | str x => exact Is.str
  | _ => cases h
theorem sc_sz (v : V) : sz (scD v) = 1 := by cases v <;> (unfold scD sz; rfl)
theorem sc_dep (v : V) : dep (scD v) = 0 := by cases v <;> (unfold scD dep; rfl)
/-- a small datum -/
def SmD (M : List Addr) (H : Hp) (v : V) : Prop := ∃ d, Is M H d v ∧ sz d ≤ 10 ∧ dep d ≤ 3
def SmDs (M : List Addr) (H : Hp) (vs : List V) : Prop := ∃ ds, IsDs M H ds vs ∧ ∀ d ∈ ds, sz d ≤ 10 ∧ dep d ≤ 3
section
variable {M N : List Addr} {H H' : Hp} {v : V} {vs ws : List V} {p : Addr}
theorem SmD.adv (x : SmD M H v) (a : Adv M H H') : SmD M H' v := let ⟨d, h, z⟩ := x; ⟨d, h.adv a, z⟩
theorem SmDs.adv (x : SmDs M H vs) (a : Adv M H H') : SmDs M H' vs := let ⟨d, h, z⟩ := x; ⟨d, h.adv a, z⟩
theorem SmD.sc (h : scV v = true) : SmD M H v := ⟨scD v, sc_is h, by rw [sc_sz]; decide, by rw [sc_dep]; decide⟩
theorem SmDs.nil : SmDs M H [] := ⟨[], .nil, by simp⟩
theorem SmDs.cons (x : SmD M H v) (y : SmDs M H vs) : SmDs M H (v :: vs) := by
  obtain ⟨d, h, z⟩ := x
  obtain ⟨ds, hs, zs⟩ := y
  refine ⟨d :: ds, .cons h hs, fun e he => ?_⟩
  rcases List.mem_cons.mp he with rfl | he
  · exact z
  · exact zs e he
theorem SmDs.app (x : SmDs M H vs) (y : SmDs M H ws) : SmDs M H (vs ++ ws) := by
  obtain ⟨ds, h, z⟩ := x
  obtain ⟨es, hs, zs⟩ := y
  refine ⟨ds ++ es, h.app hs, fun e he => ?_⟩
  rcases List.mem_append.mp he with he | he
  · exact z e he
  · exact zs e he
theorem SmDs.get (x : SmDs M H vs) {i : Nat} (h : vs[i]? = some v) : SmD M H v := by
  obtain ⟨ds, hs, zs⟩ := x
  obtain ⟨d, hd, hi⟩ := hs.getV h
  exact ⟨d, hi, zs d (List.mem_of_getElem? hd)⟩
theorem SmDs.mem (x : SmDs M H vs) (h : v ∈ vs) : SmD M H v := let ⟨_, hi⟩ := List.getElem?_of_mem h; x.get hi
end
/-! ### rows: tuples of keys -/
def kT (ks : List Key) : PyData := .tuple (ks.map keyDt)
def RwD (M : List Addr) (H : Hp) (v : V) : Prop := ∃ ks : List Key, ks.length ≤ 3 ∧ Is M H (kT ks) v
def RwDs (M : List Addr) (H : Hp) (vs : List V) : Prop := ∃ kss : List (List Key), IsDs M H (kss.map kT) vs ∧ ∀ ks ∈ kss, ks.length ≤ 3
section
variable {M N : List Addr} {H H' : Hp} {v : V} {vs ws : List V} {p : Addr}
theorem RwD.adv (x : RwD M H v) (a : Adv M H H') : RwD M H' v := let ⟨d, z, h⟩ := x; ⟨d, z, h.adv a⟩
theorem RwDs.adv (x : RwDs M H vs) (a : Adv M H H') : RwDs M H' vs := let ⟨d, h, z⟩ := x; ⟨d, h.adv a, z⟩
theorem RwDs.fresh (x : RwDs M H vs) (h : H p = none) : RwDs (p :: M) H vs := let ⟨d, y, z⟩ := x; ⟨d, y.fresh h, z⟩
theorem RwDs.less (x : RwDs M H vs) (h : ∀ b ∈ N, b ∈ M) : RwDs N H vs := let ⟨d, y, z⟩ := x; ⟨d, y.less h, z⟩
theorem RwDs.nil : RwDs M H [] := ⟨[], .nil, by simp⟩
theorem RwDs.cons (x : RwD M H v) (y : RwDs M H vs) : RwDs M H (v :: vs) := by
  obtain ⟨d, z, h⟩ := x
  obtain ⟨ds, hs, zs⟩ := y
  refine ⟨d :: ds, .cons h hs, fun e he => ?_⟩
  rcases List.mem_cons.mp he with rfl | he
  · exact z
  · exact zs e he
theorem RwDs.app (x : RwDs M H vs) (y : RwDs M H ws) : RwDs M H (vs ++ ws) := by
  obtain ⟨ds, h, z⟩ := x
  obtain ⟨es, hs, zs⟩ := y
  refine ⟨ds ++ es, by rw [List.map_append]; exact h.app hs, fun e he => ?_⟩
  rcases List.mem_append.mp he with he | he
  · exact z e he
  · exact zs e he
theorem RwDs.get (x : RwDs M H vs) {i : Nat} (h : vs[i]? = some v) : RwD M H v := by
  obtain ⟨ds, hs, zs⟩ := x
  obtain ⟨d, hd, hi⟩ := hs.getV h
  rw [List.getElem?_map, Option.map_eq_some_iff] at hd
  obtain ⟨ks, hk, rfl⟩ := hd
  exact ⟨ks, zs ks (List.mem_of_getElem? hk), hi⟩
theorem RwD.sm (x : RwD M H v) : SmD M H v := by
  obtain ⟨ks, z, h⟩ := x
  exact ⟨_, h, by unfold kT; rw [sz_tup, ks_sz]; omega, by unfold kT; rw [dep_tup, ks_dep]; omega⟩
theorem RwD.at_ (x : RwD M H v) : ∃ (a : Addr) (ks : List Key), v = .ref a ∧ Tp M H a (ks.map kV) ∧ ks.length ≤ 3 := by
  obtain ⟨ks, z, h⟩ := x
  obtain ⟨a, vs, rfl, ha, hs⟩ := h.tupE
  rw [ks_of _ _ hs] at ha
  exact ⟨a, ks, rfl, ha, z⟩
theorem RwDs.sm (x : RwDs M H vs) : SmDs M H vs := by
  obtain ⟨kss, h, z⟩ := x
  refine ⟨_, h, fun d hd => ?_⟩
  obtain ⟨ks, hk, rfl⟩ := List.mem_map.mp hd
  have := z ks hk
  unfold kT
  rw [sz_tup, ks_sz, dep_tup, ks_dep]
  omega
theorem SmDs.take (x : SmDs M H vs) (i : Nat) : SmDs M H (vs.take i) := by
  obtain ⟨ds, h, z⟩ := x
  refine ⟨ds.take i, ?_, fun d hd => z d (List.mem_of_mem_take hd)⟩
  refine IsDs.of_get (by rw [List.length_take, List.length_take, h.len]) fun j d v h1 h2 => ?_
  rw [List.getElem?_take] at h1 h2
  split at h1
  · rename_i hj
    rw [if_pos hj] at h2
    obtain ⟨v', e, hv⟩ := h.get h1
    rw [h2] at e
    cases e
    exact hv
  · cases h1
theorem SmDs.drop (x : SmDs M H vs) (i : Nat) : SmDs M H (vs.drop i) := by
  obtain ⟨ds, h, z⟩ := x
  exact ⟨ds.drop i, h.drop i, fun d hd => z d (List.mem_of_mem_drop hd)⟩
theorem SmDs.cut (x : SmDs M H vs) (lo hi : Option Int) : SmDs M H (cutV vs lo hi) := by
  unfold cutV
  exact (x.drop _).take _
theorem SmDs.fresh (x : SmDs M H vs) (h : H p = none) : SmDs (p :: M) H vs := let ⟨d, y, z⟩ := x; ⟨d, y.fresh h, z⟩
end
theorem SmDs.lst {M : List Addr} {H : Hp} {vs : List V} {l : Addr} (x : SmDs M H vs) (h : H l = some (.lst vs)) (hl : l ∉ M) (hz : vs.length ≤ 90000) : ∃ d, Is M H d (.ref l) ∧ sz d ≤ 1000000 ∧ dep d ≤ 4 := by
  obtain ⟨ds, hs, zs⟩ := x
  have := hs.len
  have h1 := szL_le (k := 10) (fun d hd => (zs d hd).1)
  have h2 := depL_le (k := 3) (fun d hd => (zs d hd).2)
  exact ⟨.list ds, Is.lst h hl hs, by rw [sz_lst]; omega, by rw [dep_lst]; omega⟩
end LL

set_option Elab.async false
set_option linter.all false
set_option maxRecDepth 100000
set_option maxHeartbeats 4000000
/-! set(list of ints), sorted of a set of ints, of any size below 4,095 -/
namespace LL
open PySem PySem.Spec PyProof.Rows L2
section
variable {P : Program} {w : World} {A : Around} {E : Value → Shared → Prop} {s : Shared}
set_option maxHeartbeats 3200000 in
theorem call_set_listI {l : Addr} {items : Array Value} (ns : List Int) {Q : Value → Shared → Prop} (hh : A.handled = none) (hl : s.heap.IsList l items) (hit : IntsAre items.toList ns) (hb : ns.length + 1 < scanBound)
    (h : ∀ (h' : Heap) (tk c : Nat), SetR w h' s.heap.objs.size (fun j => decide (j ∈ ns)) c → c ≤ ns.length → (∀ b o, s.heap.get? b = some o → h'.get? b = some o) → Q (.ref s.heap.objs.size) { s with heap := h', toks := tk }) :
    wpAny (model P w) A (call (.type "set") [.ref l]) Q E s := by
  have hisz : items.size = ns.length := by
    have q := IntsAre.length hit
    rw [Array.length_toList] at q
    exact q
  obtain ⟨c, tl, hmro⟩ := F.called_set.mro
  have hmade := F.called_set.made
  have hsub := F.called_set.sub
  refine wpAny_call (codeAny_of_tree ?_)
  show wpAny _ _ (callAny (.type "set") _) _ _ _
  refine wpAny_pure ⟨Code.quiet_builtin _ (by decide +kernel), codeAny_builtin F.entry_type_call ?_⟩
  rw [Around.under_plain (weight_type_call_type "set" [.ref l] []) rfl]
  have h1 := F.called_set.notType
  have h2 := F.called_set.canCreate
  have hct := F.typeCall_set_1 (.ref l)
  repeat (any_goals (first | assumption | wp_step))

  refine codeAny_mono (code_set_led1 (.ref l) (E := E) (Q₁ := fun obj s₁ => obj = .ref s.heap.objs.size ∧ s₁ = { s with heap := s.heap.push { cls := .type "set", dict := none, data := .set #[] 0 (.fresh 0 0 (!w.params.followText "set-order")) } }) ⟨rfl, rfl⟩) fun r s₁ hr => ?_
  cases r with
  | error e => exact hr
  | ok fl =>
    cases fl with
    | ret obj =>
      obtain ⟨rfl, rfl⟩ := hr
      have hS : (s.heap.push { cls := .type "set", dict := none, data := .set #[] 0 (.fresh 0 0 (!w.params.followText "set-order")) }).get? s.heap.objs.size = some { cls := .type "set", dict := none, data := .set #[] 0 (.fresh 0 0 (!w.params.followText "set-order")) } := Heap.get?_push_size _ rfl
      have hT : Shared.TypeIs { s with heap := s.heap.push { cls := .type "set", dict := none, data := .set #[] 0 (.fresh 0 0 (!w.params.followText "set-order")) } } (.ref s.heap.objs.size) "set" := ⟨_, hS, rfl⟩
      have hli := F.called_set.init.lookup
      have hbi := F.called_set.init.bind (.ref s.heap.objs.size)
      repeat (any_goals (first | assumption | wp_step))

      refine codeAny_mono (codeAny_call_builtin (R := wants (fun r s₂ => r = .none ∧ ∃ h' tk c, s₂ = { s with heap := h', toks := tk } ∧ SetR w h' s.heap.objs.size (fun j => decide (j ∈ ns)) c ∧ c ≤ ns.length ∧
          (∀ b o, s.heap.get? b = some o → h'.get? b = some o)) E) F.called_set.init.plain F.entry_set_init (check_set_init_1 hT ?_)) fun r₂ s₂ hr₂ => ?_
      · obtain ⟨ol, hol, hcl, nl, hdl⟩ := hl
        obtain ⟨ocls, odict, odata, oslots⟩ := ol
        simp only at hcl hdl
        subst hcl; subst hdl
        have hol' : (s.heap.push { cls := .type "set", dict := none, data := .set #[] 0 (.fresh 0 0 (!w.params.followText "set-order")) }).get? l = some { cls := .type "list", dict := odict, data := .seq items nl, slots := oslots } := Heap.get?_push_of_some _ hol
        have hsls := F.sub_list_set
        have hslf := F.sub_list_frozenset
        have hne : (Value.type "list" == Value.type "dict") = false := by decide
        have hl1 : (s.heap.push { cls := .type "set", dict := none, data := .set #[] 0 (.fresh 0 0 (!w.params.followText "set-order")) }).IsList l items := ⟨_, hol', rfl, nl, rfl⟩
        unfold Builtin.«set.__init__» noKeywords Builtin.Frozenset.updateFrom
        generalize hPI : pyIter = PI
        wp_walk
        subst hPI

        refine wpAny_pyIter_list hl1 ?_
        refine wpAny_bind (wpAny_runValue ?_)
        have hlS : l < s.heap.objs.size := Heap.lt_size hol
        have hh3 : A.in1.in1.in1.handled = none := by simp [hh]
        have hneI : l ≠ (s.heap.push { cls := .type "set", dict := none, data := .set #[] 0 (.fresh 0 0 (!w.params.followText "set-order")) }).objs.size := by
          rw [Heap.size_push]; exact Nat.ne_of_lt (Nat.lt_succ_of_lt hlS)
        have hSf : s.heap.objs.size ∉ [(s.heap.push { cls := .type "set", dict := none, data := .set #[] 0 (.fresh 0 0 (!w.params.followText "set-order")) }).objs.size, l] := by
          rw [Heap.size_push]; simp only [List.mem_cons, List.mem_singleton, List.not_mem_nil, or_false, not_or]
          exact ⟨Nat.ne_of_lt (Nat.lt_succ_self _), Nat.ne_of_gt hlS⟩
        have hval : ∀ (i : Nat) (v : Value), items[i]? = some v → ∃ k t, ns[i]? = some k ∧ v = .int k t := fun i v hv => by
          have hi : i < ns.length := by rw [← hisz]; exact (Array.getElem?_eq_some_iff.mp hv).1
          obtain ⟨t, e⟩ := PyProof.Rows.IntsAre.int_at hit i v (by rw [Array.getElem?_toList]; exact hv)
          refine ⟨ns[i], t, List.getElem?_eq_getElem hi, ?_⟩
          rw [e, List.getD_eq_getElem?_getD, List.getElem?_eq_getElem hi] <;> rfl
        refine set_update_ints ((Walks.list hh3 _ l hneI items).toS) s.heap.objs.size
          hSf ns hisz hb hval (items.size - 0) 0 _ (by omega) (Nat.zero_le _)
          ⟨⟨_, Heap.get?_push_size _ rfl, rfl, rfl⟩, (hl1.push _)⟩ ?hS0 ?hR
        case hS0 =>
          have hget : ((s.heap.push { cls := .type "set", dict := none, data := .set #[] 0 (.fresh 0 0 (!w.params.followText "set-order")) }).push { cls := .type "list_iterator", data := .fields #[.ref l, .int 0 0] }).get? s.heap.objs.size
              = some { cls := .type "set", dict := none, data := .set #[] 0 (.fresh 0 0 (!w.params.followText "set-order")) } := Heap.get?_push_of_some _ hS
          exact ⟨0, Nat.le_refl 0, setR_new_at hget⟩
        case hR =>
          intro s' c' hm hc' hS'
          obtain ⟨h', g2, d', tk', os'⟩ := s'
          have eg : g2 = s.gens := hm.gens
          have ed : d' = s.drawn := hm.drawn
          have eo : os' = s.os := hm.os
          subst eg; subst ed; subst eo
          show wpAny _ _ _ _ _ _
          refine wpAny_pure ?_
          show wpAny _ _ (ret Value.none) _ _ _
          rw [hisz] at hc'
          refine wpAny_pure ⟨rfl, h', tk', c', rfl, hS', hc', fun b o e => ?_⟩
          have hb0 : b < s.heap.objs.size := Heap.lt_size e
          have hb1 : b ≠ s.heap.objs.size := Nat.ne_of_lt hb0
          have hb2 : b ≠ (s.heap.push { cls := .type "set", dict := none, data := .set #[] 0 (.fresh 0 0 (!w.params.followText "set-order")) }).objs.size := by
            rw [Heap.size_push]; exact Nat.ne_of_lt (Nat.lt_succ_of_lt hb0)
          exact hm.heap b o (by simp only [List.mem_cons, List.mem_singleton, List.not_mem_nil, or_false, not_or]; exact ⟨hb1, hb2⟩) (Heap.get?_push_of_some _ (Heap.get?_push_of_some _ e))

      · cases r₂ with
        | error e => exact hr₂
        | ok fl₂ =>
          cases fl₂ with
          | ret r =>
            obtain ⟨rfl, h', tk, c', rfl, hS', hc', hk'⟩ := hr₂
            repeat (any_goals (first | assumption | wp_step))
            exact h _ _ _ hS' hc' hk'
          | _ => exact hr₂.elim
    | _ => exact hr.elim
theorem sorted_setB {a : Addr} {S : Int → Bool} {n : Nat} {Q : Value → Shared → Prop} (R : SetR w s.heap a S n) (hh : A.handled = none)
    (hQ : ∀ s' p (out : Array Value) (c : Nat) (ns : List Int), (∀ b o, s.heap.get? b = some o → s'.heap.get? b = some o) → s'.gens = s.gens → s'.os = s.os → s.heap.objs.size ≤ p →
      s'.heap.get? p = some (seqObj "list" out c) → IntsAre out.toList ns → ns.Pairwise (· < ·) → (∀ k, k ∈ ns ↔ S k = true) → ns.length = n → n < scanBound → Q (.ref p) s') :
    wpAny (model P w) A (call (.builtin "sorted") [.ref a]) Q E s := by
  obtain ⟨o, es, ep, t, ho, hex, hd, g, nd, hm, hb, hf, hn, hr, hl⟩ := R
  refine Calls.call_function_entry kind_sorted plain_sorted entry_sorted (args_sorted1 _) ?_
  unfold Builtin.«sorted»
  refine wpAny_bind (m := checkCount "sorted" 1 1 _) (wpAny_pure ?_)
  refine wpAny_bind (collect_set (A := A.in1) hh ⟨o, ho, hex.1, hd⟩ hf hb hr hl fun s1 vs k1 hz g1 o1 pm => ?_)
  have hvl : vs.length = n := by rw [pm.length_eq, List.length_map, Array.length_toList]; exact hn
  have hI : IntsAre vs (vs.map Builtin.Re.reRawOf) := ints_of vs fun v hv => by
    obtain ⟨e, he, q⟩ := List.mem_map.mp (pm.mem_iff.mp hv)
    obtain ⟨k, tk, h1, _⟩ := g e he
    exact ⟨k, tk, by rw [← q]; exact h1⟩
  have pk : (vs.map Builtin.Re.reRawOf).Perm (es.toList.map keyOf) := by
    have q := pm.map Builtin.Re.reRawOf
    rw [List.map_map] at q
    exact q
  have hnb : n < scanBound := by rw [← hn]; exact hb
  have hvz : vs.length ≤ sizeLine := by rw [hvl, sizeLine_eq]; unfold scanBound at hnb; omega
  refine wpAny_bind (wpAny_newList ?_ hvz)
  have hoL : (s1.heap.push (seqObj "list" vs.toArray 0)).get? s1.heap.objs.size = some (seqObj "list" vs.toArray 0) := Heap.get?_push_size _ rfl
  refine wpAny_bind (wpAny_holding (wpAny_call_entry slot_list_sort ⟨_, hoL, rfl⟩ entry_list_sort (SrtO.list_sort_ord SrtO.swo_int hoL hvz (fun h2 => SrtO.ints_sortable hI h2) fun out h1 h2 => ⟨_, rfl, ?_⟩) (args_list_sort _)))
  obtain ⟨a1, a2, a3⟩ := SrtO.ints_out hI h1 h2
  obtain ⟨c, hc⟩ := sortedHeap_at (vs := vs) (out := out.toArray) hoL
  have pn : (out.map SrtO.iv).Perm (es.toList.map keyOf) := a2.trans pk
  refine wpAny_pure ⟨_, rfl, hQ _ s1.heap.objs.size out.toArray c _ (fun b u e => ?_) g1 o1 hz hc (by simpa using a1) (lt_of_le_nodup _ a3 (pn.nodup_iff.mpr nd)) (fun k => by rw [pn.mem_iff, ← hm k]) ?_ hnb⟩
  · have q := k1 b u e
    have hlt := Heap.lt_size q
    show (sortedHeap (s1.heap.push (seqObj "list" vs.toArray 0)) s1.heap.objs.size vs out.toArray).get? b = some u
    rw [sortedHeap_old (Nat.ne_of_lt hlt) (by rw [size_push']; exact Nat.lt_succ_of_lt hlt)]
    exact Heap.get?_push_of_some _ q
  · rw [pn.length_eq, List.length_map, Array.length_toList]; exact hn
end
section
variable {X : Cx}
/-- set(xs), xs a list of ints -/
def rSetL (K : PySem.W.Frag) (w : World) : List V → Hp → VK → Prop := fun vs H Q => ∃ (a : Addr) (ns : List Int), vs = [V.ref a] ∧ (SqL K H a (ns.map V.int) ∨ SqT K H a (ns.map V.int)) ∧ ns.length ≤ 4000 ∧
  ∀ p n, n ≤ ns.length → H p = none → Q (.ref p) (upd H p (SetO w p (fun j => decide (j ∈ ns)) n))
theorem cr_setL (hc : X.calm = true) : CallR X (.type "set") (rSetL X.K X.w) := by
  intro pins s σ H vs us Q I r h
  obtain ⟨a, ns, rfl, hs, hz, q⟩ := h
  rw [Vals.ref1 r]
  rcases hs with hs | hs
  · obtain ⟨its, rv, hl, _⟩ := I.list hs
    refine call_set_listI ns (I.ok.hd hc) hl.isList (by simpa using rv.ints) (by unfold scanBound; omega) fun h' tk c R hc' k => ?_
    exact ⟨.ref _, upd H s.heap.objs.size (SetO X.w s.heap.objs.size (fun j => decide (j ∈ ns)) c), I.laid (t' := tk) k (Nat.le_refl _) (setO_new R), rfl, q _ _ hc' (I.hok.fresh (Nat.le_refl _))⟩
  · obtain ⟨its, rv, hl, _⟩ := I.tuple hs
    refine call_set_tupI ns (I.ok.hd hc) hl (by simpa using rv.ints) (by unfold scanBound; omega) fun h' tk c R hc' k => ?_
    exact ⟨.ref _, upd H s.heap.objs.size (SetO X.w s.heap.objs.size (fun j => decide (j ∈ ns)) c), I.laid (t' := tk) k (Nat.le_refl _) (setO_new R), rfl, q _ _ hc' (I.hok.fresh (Nat.le_refl _))⟩
/-- sorted(a set of ints) -/
def rSortS (w : World) : List V → Hp → VK → Prop := fun vs H Q => ∃ (a : Addr) (S : Int → Bool) (n : Nat), vs = [V.ref a] ∧ H a = some (SetO w a S n) ∧
  ∀ (ns : List Int) (p : Addr), ns.Pairwise (· < ·) → (∀ k : Int, k ∈ ns ↔ S k = true) → ns.length = n → H p = none → Q (.ref p) (upd H p (.lst (ns.map V.int)))
theorem cr_sortS (hc : X.calm = true) : CallR X (.builtin "sorted") (rSortS X.w) := by
  intro pins s σ H vs us Q I r h
  obtain ⟨a, S, n, rfl, ha, q⟩ := h
  have R := setO_get I ha
  rw [Vals.ref1 r]
  refine sorted_setB R (I.ok.hd hc) fun s' p out c ns k g o hp hg hi hs hm hl hb => ?_
  have hlen : (ns.map V.int).length ≤ sizeLine := by rw [List.length_map, hl, sizeLine_eq]; unfold scanBound at hb; omega
  have hn : H p = none := I.hok.fresh hp
  have J : Inv X pins σ (upd H p (.lst (ns.map V.int))) { s with heap := s'.heap, gens := s'.gens, drawn := s'.drawn, toks := s'.toks } :=
    I.call (ch := []) (Un.laid k hp hn) (I.hok.laid k hp ⟨hlen, out.toList, c, vals_of_ints hi, hg⟩) (by rw [g]; exact I.bare) (fun _ z => nomatch z)
  have e : s' = { s with heap := s'.heap, gens := s'.gens, drawn := s'.drawn, toks := s'.toks } := by
    cases s'
    cases s
    cases o
    rfl
  rw [e]
  exact ⟨.ref p, _, J, rfl, q ns p hs hm hl hn⟩
end
/-! ### the sorted list of the members -/
def insI (x : Int) : List Int → List Int
  | [] => [x]
  | y :: l => if x < y then x :: y :: l else if x = y then y :: l else y :: insI x l
/-- the ascending list of the members of xs -/
def srtU : List Int → List Int
  | [] => []
  | x :: l => insI x (srtU l)
theorem insI_mem {x k : Int} : ∀ {l : List Int}, k ∈ insI x l ↔ k = x ∨ k ∈ l
  | [] => by simp [insI]
  | y :: l => by
    unfold insI
    split
    · simp
    · split
      · rename_i h; subst h; simp
      · simp only [List.mem_cons, insI_mem (l := l)]
        constructor
        · rintro (h | h | h) <;> simp [h]
        · rintro (h | h | h) <;> simp [h]
theorem insI_asc {x : Int} : ∀ {l : List Int}, l.Pairwise (· < ·) → (insI x l).Pairwise (· < ·)
  | [], _ => by simp [insI]
  | y :: l, h => by
    obtain ⟨h1, h2⟩ := List.pairwise_cons.mp h
    unfold insI
    split
    · rename_i c
      exact List.pairwise_cons.mpr ⟨fun z hz => by
        rcases List.mem_cons.mp hz with e | e
        · rw [e]; exact c
        · have := h1 z e; omega, h⟩
    · split
      · exact h
      · refine List.pairwise_cons.mpr ⟨fun z hz => ?_, insI_asc h2⟩
        rcases insI_mem.mp hz with e | e
        · subst e; omega
        · exact h1 z e
theorem srtU_mem {k : Int} : ∀ {l : List Int}, k ∈ srtU l ↔ k ∈ l
  | [] => by simp [srtU]
  | y :: l => by
    unfold srtU
    rw [insI_mem, srtU_mem (l := l)]
    simp
theorem srtU_asc : ∀ l : List Int, (srtU l).Pairwise (· < ·)
  | [] => List.Pairwise.nil
  | y :: l => by
    unfold srtU
    exact insI_asc (srtU_asc l)
theorem asc_ext : ∀ {l m : List Int}, l.Pairwise (· < ·) → m.Pairwise (· < ·) → (∀ k, k ∈ l ↔ k ∈ m) → l = m
  | [], [], _, _, _ => rfl
  | [], y :: m, _, _, e => absurd ((e y).mpr List.mem_cons_self) (by simp)
  | x :: l, [], _, _, e => absurd ((e x).mp List.mem_cons_self) (by simp)
  | x :: l, y :: m, h1, h2, e => by
    obtain ⟨a1, a2⟩ := List.pairwise_cons.mp h1
    obtain ⟨b1, b2⟩ := List.pairwise_cons.mp h2
    have exy : x = y := by
      rcases List.mem_cons.mp ((e x).mp List.mem_cons_self) with c | c
      · exact c
      · rcases List.mem_cons.mp ((e y).mpr List.mem_cons_self) with d | d
        · exact d.symm
        · have := b1 x c; have := a1 y d; omega
    subst exy
    rw [asc_ext a2 b2 fun k => ?_]
    constructor
    · intro hk
      rcases List.mem_cons.mp ((e k).mp (List.mem_cons_of_mem _ hk)) with c | c
      · have := a1 k hk; omega
      · exact c
    · intro hk
      rcases List.mem_cons.mp ((e k).mpr (List.mem_cons_of_mem _ hk)) with c | c
      · have := b1 k hk; omega
      · exact c
theorem srtU_len : ∀ l : List Int, (srtU l).length ≤ l.length
  | [] => Nat.le_refl _
  | y :: l => by
    have ins : ∀ (x : Int) (m : List Int), (insI x m).length ≤ m.length + 1 := by
      intro x m
      induction m with
      | nil => simp [insI]
      | cons z m ih =>
        unfold insI
        split
        · simp
        · split
          · simp
          · simp only [List.length_cons]; omega
    unfold srtU
    have := ins y (srtU l)
    have := srtU_len l
    simp only [List.length_cons]
    omega
theorem srtU_of {l ns : List Int} (h : ns.Pairwise (· < ·)) (e : ∀ k, k ∈ ns ↔ decide (k ∈ l) = true) : ns = srtU l :=
  asc_ext h (srtU_asc l) fun k => by rw [e k, srtU_mem]; simp
end LL

set_option Elab.async false
set_option linter.all false
set_option maxRecDepth 100000
set_option maxHeartbeats 400000
/-! LClm: claims and their readings, in plain words -/
namespace LL
open PySem PySem.Spec PyProof.Rows L2
/-! ### rows -/
variable [KW]
def nD (rows : List Nat) : List PyData := rows.map fun r => .int (r : Nat)
def intD : PyData → Int
  | .int i => i
  | _ => 0
def risB (l : List Int) : Bool := (List.range (l.length - 1)).all fun i => decide (l.getD i 0 < l.getD (i + 1) 0)
/-- a tuple of rising rows below n -/
def rowsB (n : Int) : PyData → Bool
  | .tuple ds => ds.all (isNum 0 (n - 1)) && risB (ds.map intD)
  | _ => false
theorem nD_int (rows : List Nat) : (nD rows).map intD = rows.map fun r => ((r : Nat) : Int) := by
  unfold nD
  rw [List.map_map]
  rfl
theorem all_nat {n : Int} : ∀ {ds : List PyData}, ds.all (isNum 0 (n - 1)) = true → ∃ rows : List Nat, ds = nD rows ∧ ∀ r ∈ rows, (r : Int) < n
  | [], _ => ⟨[], rfl, by simp⟩
  | d :: ds, h => by
    rw [List.all_cons, Bool.and_eq_true] at h
    obtain ⟨i, rfl, h1, h2⟩ := num_nat h.1 (by decide)
    obtain ⟨rows, rfl, h3⟩ := all_nat h.2
    refine ⟨i :: rows, rfl, fun r hr => ?_⟩
    rcases List.mem_cons.mp hr with e | e
    · subst e; omega
    · exact h3 r e
theorem ris_pair : ∀ {l : List Int}, risB l = true → l.Pairwise (· < ·)
  | [], _ => List.Pairwise.nil
  | [x], _ => by simp
  | x :: y :: l, h => by
    have h' := List.all_eq_true.mp h
    have h0 : x < y := by
      have := h' 0 (List.mem_range.mpr (by simp))
      simpa using this
    have ht : risB (y :: l) = true := List.all_eq_true.mpr fun i hi => by
      have hi := List.mem_range.mp hi
      have := h' (i + 1) (List.mem_range.mpr (by simp only [List.length_cons] at *; omega))
      simpa using this
    have ih := ris_pair ht
    refine List.pairwise_cons.mpr ⟨fun z hz => ?_, ih⟩
    rcases List.mem_cons.mp hz with e | e
    · rw [e]; exact h0
    · have := (List.pairwise_cons.mp ih).1 z e
      omega
theorem rows_nat {n : Int} {d : PyData} (h : rowsB n d = true) : ∃ rows : List Nat, d = .tuple (nD rows) ∧ (∀ r ∈ rows, (r : Int) < n) ∧ (rows.map fun r => ((r : Nat) : Int)).Pairwise (· < ·) := by
  cases d with
  | tuple ds =>
    have h : (ds.all (isNum 0 (n - 1)) && risB (ds.map intD)) = true := h
    rw [Bool.and_eq_true] at h
    obtain ⟨rows, rfl, h2⟩ := all_nat h.1
    refine ⟨rows, rfl, h2, ?_⟩
    rw [← nD_int]
    exact ris_pair h.2
  | _ => cases h
def nVl (rows : List Nat) : List V := rows.map fun r => .int (r : Nat)
theorem nD_is {M : List Addr} {H : Hp} : ∀ rows : List Nat, IsDs M H (nD rows) (nVl rows)
  | [] => .nil
  | r :: rows => .cons Is.int (nD_is rows)
theorem nD_of {M : List Addr} {H : Hp} : ∀ {rows : List Nat} {vs : List V}, IsDs M H (nD rows) vs → vs = nVl rows
  | [], vs, h => by
    unfold nD at h
    rw [List.map_nil] at h
    unfold IsDs at h
    exact h
  | r :: rows, vs, h => by
    unfold nD at h
    rw [List.map_cons] at h
    unfold IsDs at h
    obtain ⟨v, ws, rfl, h1, h2⟩ := h
    cases h1.intE
    rw [nD_of (rows := rows) h2]
    rfl
theorem nD_sz (rows : List Nat) : szL (nD rows) = rows.length := by
  unfold nD
  induction rows with
  | nil => exact szL_nil
  | cons r rows ih => rw [List.map_cons, szL_cons, ih, List.length_cons, sz1_int]; omega
theorem nD_dep (rows : List Nat) : depL (nD rows) = 0 := by
  unfold nD
  induction rows with
  | nil => exact depL_nil
  | cons r rows ih => rw [List.map_cons, depL_cons, ih, dep1_int]; rfl
/-! ### ascending -/
def srtN (rows : List Nat) : List Nat := (srtU (rows.map fun r => ((r : Nat) : Int))).map Int.toNat
theorem srtN_cast (rows : List Nat) : (srtN rows).map (fun r => ((r : Nat) : Int)) = srtU (rows.map fun r => ((r : Nat) : Int)) := by
  unfold srtN
  rw [List.map_map]
  have : ∀ x ∈ srtU (rows.map fun r => ((r : Nat) : Int)), ((fun r => ((r : Nat) : Int)) ∘ Int.toNat) x = x := fun x hx => by
    obtain ⟨r, _, rfl⟩ := List.mem_map.mp (srtU_mem.mp hx)
    simp
  exact (List.map_congr_left this).trans (List.map_id _)
theorem srtN_mem {rows : List Nat} {k : Nat} : k ∈ srtN rows ↔ k ∈ rows := by
  have e := srtN_cast rows
  have cm : ∀ l : List Nat, k ∈ l ↔ ((k : Nat) : Int) ∈ l.map (fun r => ((r : Nat) : Int)) := fun l => by
    constructor
    · exact fun h => List.mem_map.mpr ⟨k, h, rfl⟩
    · intro h
      obtain ⟨a, ha, e⟩ := List.mem_map.mp h
      rw [← Int.ofNat.inj e]
      exact ha
  rw [cm (srtN rows), e, srtU_mem, ← cm]
theorem srtN_len (rows : List Nat) : (srtN rows).length ≤ rows.length := by
  unfold srtN
  rw [List.length_map]
  have := srtU_len (rows.map fun r => ((r : Nat) : Int))
  rw [List.length_map] at this
  exact this
theorem nV_srt (rows : List Nat) : (srtU (rows.map fun r => ((r : Nat) : Int))).map V.int = nVl (srtN rows) := by
  rw [← srtN_cast]
  unfold nVl
  rw [List.map_map]
  rfl
/-! ### the readings -/
inductive R7
  | neg | den | box | dou | mk | ms | mg
  deriving DecidableEq
def R7.str : R7 → Str
  | .neg => "negative" | .den => "denied" | .box => "boxed" | .dou => "doubled" | .mk => "modal k" | .ms => "modal s4" | .mg => "modal gl"
def r7Of (x : Str) : Option R7 :=
  if x = "negative" then some .neg else if x = "denied" then some .den else if x = "boxed" then some .box else if x = "doubled" then some .dou else if x = "modal k" then some .mk else if x = "modal s4" then some .ms else if x = "modal gl" then some .mg else none
def isR7 : PyData → Option R7
  | .str x => r7Of x
  | _ => none
def R7.lo : R7 → Str
  | .box => "intuit" | .dou => "intuit" | _ => "classical"
def R7.hi : R7 → Str
  | .neg => "intuit" | .den => "intuit" | .box => "s4" | .dou => "gl" | .mk => "k" | .ms => "s4" | .mg => "gl"
/-- the rows denied, one after the other -/
def denyL : List Nd → List Nat → List Nat × List Nd
  | ns, [] => ([], ns)
  | ns, r :: rs => ((denyF ns r).1 :: (denyL (denyF ns r).2 rs).1, (denyL (denyF ns r).2 rs).2)
/-- rows grown by a reading -/
def growF (w : W3) (ns : List Nd) (rows : List Nat) : List Nd × (Nat → Nat) := readF w ns (belowF ns rows) ns (fun _ => 0)
def newC (r : R7) (ns : List Nd) (rows : List Nat) : List Nd × (Nat → Nat) :=
  match r with
  | .neg => growF .neg ns rows
  | .box => growF .box ns rows
  | .dou => ((growF .dou (growF .box ns rows).1 (rows.map (growF .box ns rows).2)).1, fun i => (growF .dou (growF .box ns rows).1 (rows.map (growF .box ns rows).2)).2 ((growF .box ns rows).2 i))
  | _ => (ns, fun i => i)
def R7.denies : R7 → Bool
  | .neg => true
  | .den => true
  | _ => false
/-- the read claim -/
def readC (r : R7) (ns : List Nd) (le ri : List Nat) : List Nd × List Nat × List Nat :=
  if r.denies then ((denyL (newC r ns (le ++ ri)).1 (ri.map (newC r ns (le ++ ri)).2)).2, srtN (le.map (newC r ns (le ++ ri)).2 ++ (denyL (newC r ns (le ++ ri)).1 (ri.map (newC r ns (le ++ ri)).2)).1), [])
  else ((newC r ns (le ++ ri)).1, srtN (le.map (newC r ns (le ++ ri)).2), srtN (ri.map (newC r ns (le ++ ri)).2))
/-! ### claims as data -/
def clD (ns : List Nd) (l r : List Nat) : PyData := .tuple [.list (ns.map Nd.data), .tuple [], .tuple (nD l), .tuple (nD r)]
def emptyT : PyData → Bool
  | .tuple [] => true
  | _ => false
/-- the first error of a claim -/
def claimW : PyData → Option (Str × PyData)
  | .tuple [sh, th, le, ri] =>
    match wrongD 5000 false sh with
    | some i => some ("BadSheet", .int i)
    | none => if (rowsB (lenD sh) th && emptyT th) = false then some ("BadClaim", .str "theory") else if rowsB (lenD sh) le = false then some ("BadClaim", .str "left") else if rowsB (lenD sh) ri = false then some ("BadClaim", .str "right") else none
  | _ => some ("BadClaim", .str "claim")
/-- a right claim -/
structure RtC (ns : List Nd) (l r : List Nat) : Prop where
  ok : okSheet false ns
  hl : ns.length ≤ 5000
  bl : ∀ i ∈ l, i < ns.length
  br : ∀ i ∈ r, i < ns.length
  al : (l.map fun r => ((r : Nat) : Int)).Pairwise (· < ·)
  ar : (r.map fun r => ((r : Nat) : Int)).Pairwise (· < ·)
/-- what is due -/
inductive DueC (rd cl : PyData) : PyData → Prop
  | value (h : isR7 rd = none) : DueC rd cl (.tuple [.str "BadValue", .str "reading"])
  | wrong (r : R7) (h : isR7 rd = some r) (c : Str) (x : PyData) (h2 : claimW cl = some (c, x)) : DueC rd cl (.tuple [.str c, x])
  | told (r : R7) (h : isR7 rd = some r) (ns : List Nd) (le ri : List Nat) (hc : cl = clD ns le ri) (h2 : claimW cl = none) (ok : RtC ns le ri) : DueC rd cl (.tuple [.str "told", clD (readC r ns le ri).1 (readC r ns le ri).2.1 (readC r ns le ri).2.2])
end LL

set_option Elab.async false
set_option linter.all false
set_option maxRecDepth 100000
set_option maxHeartbeats 400000
/-! LCmp: comprehensions over range(lo, hi) -/
namespace LL
open PySem PySem.Spec PyProof.Rows L2
section
variable [KW]
variable {K : PySem.W.Frag} {a D : Addr} {xs : List V} {g : TG} {te : TE} {vs : List Nat} {σ : L2.St} {H1 : Hp} {Qd : Hp → Prop}
theorem lc_mapRl {lo : Int} {n : Nat} (ys : Nat → V) (hD : H1 D = none) (hz : n ≤ 1000000)
    (hs : ∀ (i : Nat) (H : Hp) (acc : List V) (R : V → Hp → Prop), i < n → Adv [] H1 H → H D = some (.lst acc) → (∀ H4, H4 D = some (.lst acc) → Adv [] H1 H4 → R (ys i) H4) → g (.int (lo + (i : Nat))) (wipe σ vs) H fun σ2 H2 => wipe σ2 vs = wipe σ vs ∧ te σ2 H2 R)
    (hd : ∀ H, Adv [] H1 H → H D = some (.lst ((List.range n).map ys)) → Qd H) :
    ∃ W : Nat → Nat → Hp → Prop, (∃ m, W 0 m (upd H1 D (.lst []))) ∧ ∀ i m H, W i m H →
      ((Itr lo n).stop i H ∧ Qd H) ∨ ((Itr lo n).go i H ∧ ∃ Nx : Hp → Prop, (∀ H', Nx H' → ∃ m', m' < m ∧ W (i + 1) m' H') ∧ ∀ x H', (Itr lo n).yld i H x H' → g x (wipe σ vs) H' fun σ2 H2 => wipe σ2 vs = wipe σ vs ∧ tYes σ2 H2 fun b H3 =>
        if b = true then te σ2 H3 fun y H4 => ∃ acc, H4 D = some (.lst acc) ∧ acc.length < sizeLine ∧ Nx (upd H4 D (.lst (acc ++ [y]))) else Nx H3) := by
  refine lc_range (lo := lo) (n := n) (tt := tYes) (fun i H => Adv [] H1 H ∧ H D = some (.lst ((List.range i).map ys))) ⟨Adv.new hD, upd_same⟩ (fun i H hi p => ?_) (fun H p => hd H p.1 p.2)
  refine hs i H _ (fun y H4 => ∃ acc, H4 D = some (.lst acc) ∧ acc.length < sizeLine ∧ Adv [] H1 (upd H4 D (.lst (acc ++ [y]))) ∧ (upd H4 D (.lst (acc ++ [y]))) D = some (.lst ((List.range (i + 1)).map ys))) hi p.1 p.2 (fun H4 e4 a4 => ⟨_, e4, ?_, Adv.mut a4 hD, ?_⟩)
  · rw [List.length_map, List.length_range, sizeLine_eq]
    omega
  · rw [upd_same, range_map_succ]
end
end LL

set_option Elab.async false
set_option linter.all false
set_option maxRecDepth 100000
set_option maxHeartbeats 400000
/-! LSrt: sorted(a list of tuples of ints, none of them empty), of any length -/
namespace LL
open PySem PySem.Spec PyProof.Rows L2
def ltL : List Int → List Int → Bool
  | [], [] => false
  | [], _ :: _ => true
  | _ :: _, [] => false
  | x :: xs, y :: ys => if x = y then ltL xs ys else decide (x < y)
section
variable {prog : Program} {w : World} {A : Around} {s : Shared}
/-- a tuple of these ints -/
def TupI (h : Heap) (v : Value) (ns : List Int) : Prop := ∃ a o its n, v = Value.ref a ∧ h.get? a = some o ∧ o.cls = .type "tuple" ∧ o.data = .seq its n ∧ IntsAre its.toList ns
theorem TupI.keeps {h h' : Heap} {v : Value} {ns : List Int} (x : TupI h v ns) (k : ∀ b o, h.get? b = some o → o.cls = .type "tuple" → h'.get? b = some o) : TupI h' v ns := by
  obtain ⟨a, o, its, n, e, ho, hc, hd, hi⟩ := x
  exact ⟨a, o, its, n, e, k a o ho hc, hc, hd, hi⟩
end
/-- sorted(xs), tuples of ints that are not empty (an only one may be) -/
def rSortT : List V → Hp → VK → Prop := fun vs H Q => ∃ (a : Addr) (ys : List V) (k : V → List Int), vs = [V.ref a] ∧ H a = some (.lst ys) ∧ (∀ y ∈ ys, ∃ t, y = V.ref t ∧ H t = some (.tup ((k y).map V.int))) ∧ (2 ≤ ys.length → ∀ y ∈ ys, k y ≠ []) ∧
  ∀ zs p, zs.Perm ys → zs.Pairwise (fun x y => ltL (k y) (k x) = false) → H p = none → Q (.ref p) (upd H p (.lst zs))
end LL

set_option Elab.async false
set_option linter.all false
set_option maxRecDepth 100000
set_option maxHeartbeats 400000
/-! LTr: sets of numbers as bits; the least sets that cross each of some sets -/
namespace LL
open PySem PySem.Spec PyProof.Rows L2
def Sub (x y : Nat) : Prop := x &&& y = x
theorem Sub.iff {x y : Nat} : Sub x y ↔ ∀ i, x.testBit i = true → y.testBit i = true := by
  unfold Sub
  constructor
  · intro h i hx
    rw [← h, Nat.testBit_and, Bool.and_eq_true] at hx
    exact hx.2
  · intro h
    apply Nat.eq_of_testBit_eq
    intro i
    rw [Nat.testBit_and]
    cases e : x.testBit i with
    | false => rfl
    | true => rw [h i e]; rfl
theorem Sub.le {x y : Nat} (h : Sub x y) : x ≤ y := by
  have := Nat.and_le_right (n := x) (m := y)
  rw [h] at this
  exact this
theorem Sub.refl (x : Nat) : Sub x x := Nat.and_self x
theorem Sub.trans {x y z : Nat} (a : Sub x y) (b : Sub y z) : Sub x z := Sub.iff.mpr fun i h => Sub.iff.mp b i (Sub.iff.mp a i h)
theorem nz_iff {x : Nat} : x ≠ 0 ↔ ∃ i, x.testBit i = true := by
  constructor
  · intro h
    obtain ⟨i, hi⟩ := Nat.exists_testBit_ne_of_ne h
    rw [Nat.zero_testBit] at hi
    exact ⟨i, by simpa using hi⟩
  · rintro ⟨i, h⟩ e
    rw [e, Nat.zero_testBit] at h
    cases h
theorem and_nz {x y : Nat} : x &&& y ≠ 0 ↔ ∃ i, x.testBit i = true ∧ y.testBit i = true := by
  rw [nz_iff]
  constructor
  · rintro ⟨i, h⟩
    rw [Nat.testBit_and, Bool.and_eq_true] at h
    exact ⟨i, h⟩
  · rintro ⟨i, h1, h2⟩
    exact ⟨i, by rw [Nat.testBit_and, h1, h2]; rfl⟩
def Crs (T : List Nat) (x : Nat) : Prop := ∀ t ∈ T, x &&& t ≠ 0
theorem Crs.mono {T : List Nat} {x y : Nat} (h : Crs T x) (s : Sub x y) : Crs T y := fun t ht => by
  obtain ⟨i, h1, h2⟩ := and_nz.mp (h t ht)
  exact and_nz.mpr ⟨i, Sub.iff.mp s i h1, h2⟩
def Mn (p : Nat → Prop) (x : Nat) : Prop := p x ∧ ∀ y, p y → Sub y x → y = x
/-- the numbers below n that are in the bits -/
def bitsL (n x : Nat) : List Nat := (List.range n).filter fun i => x.testBit i
def bitsN (l : List Nat) : Nat := l.foldl (fun b k => b ||| 2 ^ k) 0
/-! ### minimal members of a list -/
def leastN (l : List Nat) : List Nat := (srtN l).filter fun one => ((srtN l).filter fun other => decide (other &&& one = other) && decide (other ≠ one)).length == 0
section
variable [KW]
theorem srtN_asc (l : List Nat) : (srtN l).Pairwise (· < ·) := by
  have h := srtU_asc (l.map fun r => ((r : Nat) : Int))
  rw [← srtN_cast, List.pairwise_map] at h
  exact h.imp fun h => by omega
end
/-! ### set by set -/
def newF (n : Nat) (F : List Nat) (t : Nat) : List Nat := F.flatMap fun one => if one &&& t ≠ 0 then [one] else (bitsL n t).map fun k => one ||| 2 ^ k
def crossF (n : Nat) (T : List Nat) : List Nat := T.foldl (fun F t => leastN (newF n F t)) [0]
/-! ### one by one -/
def leastStep (T : List Nat) (F : List Nat) (b : Nat) : List Nat := if ((T.all fun t => decide (b &&& t ≠ 0)) && !(F.any fun l => decide (b &&& l = l))) = true then F ++ [b] else F
def leastF (n : Nat) (T : List Nat) : List Nat := (List.range (2 ^ n)).foldl (leastStep T) []
/-! ### crossing what crosses -/
/-! ### how many they are -/
/-! ### as data -/
def bI (x : Nat) : List Int := (bitsL 12 x).map fun i => ((i : Nat) : Int)
def srtB (l : List Nat) : List Nat := l.mergeSort fun x y => !ltL (bI y) (bI x)
def setD (x : Nat) : PyData := .tuple (nD (bitsL 12 x))
def setsD (L : List Nat) : List PyData := (srtB L).map setD
end LL

set_option Elab.async false
set_option linter.all false
set_option maxRecDepth 100000
set_option maxHeartbeats 400000
/-! LBits: the bit operations of naturals -/
namespace LL
open PySem PySem.Spec PyProof.Rows L2
section
variable {σ : L2.St} {H : Hp} {Q : VK}
end
end LL

set_option Elab.async false
set_option linter.all false
set_option maxRecDepth 100000
set_option maxHeartbeats 400000
/-! LNatC: comprehensions over a list of rows -/
namespace LL
open PySem PySem.Spec PyProof.Rows L2
section
variable {X : Cx}
end
section
variable [KW]
variable {K : PySem.W.Frag} {a D : Addr} {T : List Nat} {g : TG} {te : TE} {tt : TT} {vs : List Nat} {σ : L2.St} {H1 : Hp} {Qd : Hp → Prop}
theorem nVl_gt {rows : List Nat} {i : Nat} {x : V} (h : (nVl rows)[i]? = some x) : ∃ k : Nat, rows[i]? = some k ∧ x = .int (k : Nat) := by
  unfold nVl at h
  rw [List.getElem?_map, Option.map_eq_some_iff] at h
  obtain ⟨k, hk, rfl⟩ := h
  exact ⟨k, hk, rfl⟩
theorem nVl_lth (rows : List Nat) : (nVl rows).length = rows.length := by unfold nVl; rw [List.length_map]
theorem take_snc {α : Type} {l : List α} {i : Nat} {k : α} (h : l[i]? = some k) : l.take (i + 1) = l.take i ++ [k] := by rw [List.take_add_one, h]; rfl
theorem lc_natL (ys : Nat → V) (hD : H1 D = none) (src : H1 a = some (.lst (nVl T))) (hz : T.length ≤ 1000000)
    (hs : ∀ (k : Nat) (H : Hp) (acc : List V) (R : V → Hp → Prop), k ∈ T → Adv [] H1 H → H D = some (.lst acc) → (∀ H4, H4 D = some (.lst acc) → Adv [] H1 H4 → R (ys k) H4) → g (.int (k : Nat)) (wipe σ vs) H fun σ2 H2 => wipe σ2 vs = wipe σ vs ∧ te σ2 H2 R)
    (hd : ∀ H, Adv [] H1 H → H D = some (.lst (T.map ys)) → Qd H) :
    ∃ W : Nat → Nat → Hp → Prop, (∃ m, W 0 m (upd H1 D (.lst []))) ∧ ∀ i m H, W i m H →
      ((Itl K a).stop i H ∧ Qd H) ∨ ((Itl K a).go i H ∧ ∃ Nx : Hp → Prop, (∀ H', Nx H' → ∃ m', m' < m ∧ W (i + 1) m' H') ∧ ∀ x H', (Itl K a).yld i H x H' → g x (wipe σ vs) H' fun σ2 H2 => wipe σ2 vs = wipe σ vs ∧ tYes σ2 H2 fun b H3 =>
        if b = true then te σ2 H3 fun y H4 => ∃ acc, H4 D = some (.lst acc) ∧ acc.length < sizeLine ∧ Nx (upd H4 D (.lst (acc ++ [y]))) else Nx H3) := by
  refine lc_list (K := K) (a := a) (xs := nVl T) (tt := tYes) (fun i H => Adv [] H1 H ∧ H D = some (.lst ((T.take i).map ys))) ⟨Adv.new hD, upd_same⟩ (fun i H _ p => SqL.of (p.1.same _ _ src)) (fun i x H hx p => ?_) (fun H p => ?_)
  · obtain ⟨k, hk, rfl⟩ := nVl_gt hx
    refine hs k H _ (fun y H4 => ∃ acc, H4 D = some (.lst acc) ∧ acc.length < sizeLine ∧ Adv [] H1 (upd H4 D (.lst (acc ++ [y]))) ∧ (upd H4 D (.lst (acc ++ [y]))) D = some (.lst ((T.take (i + 1)).map ys))) (List.mem_of_getElem? hk) p.1 p.2 (fun H4 e4 a4 => ⟨_, e4, ?_, Adv.mut a4 hD, ?_⟩)
    · rw [List.length_map, List.length_take, sizeLine_eq]
      omega
    · rw [upd_same, take_snc hk, List.map_append]
      rfl
  · obtain ⟨p1, p2⟩ := p
    rw [nVl_lth, List.take_length] at p2
    exact hd H p1 p2
theorem lc_filtL (ys : Nat → V) (c : Nat → Bool) (hD : H1 D = none) (src : H1 a = some (.lst (nVl T))) (hz : T.length ≤ 1000000)
    (hs : ∀ (k : Nat) (H : Hp) (acc : List V) (R : V → Hp → Prop) (R0 : Hp → Prop), k ∈ T → Adv [] H1 H → H D = some (.lst acc) → (c k = true → ∀ H4, H4 D = some (.lst acc) → Adv [] H1 H4 → R (ys k) H4) →
      (c k = false → ∀ H4, H4 D = some (.lst acc) → Adv [] H1 H4 → R0 H4) → g (.int (k : Nat)) (wipe σ vs) H fun σ2 H2 => wipe σ2 vs = wipe σ vs ∧ tt σ2 H2 fun b H3 => if b = true then te σ2 H3 R else R0 H3)
    (hd : ∀ H, Adv [] H1 H → H D = some (.lst ((T.filter c).map ys)) → Qd H) :
    ∃ W : Nat → Nat → Hp → Prop, (∃ m, W 0 m (upd H1 D (.lst []))) ∧ ∀ i m H, W i m H →
      ((Itl K a).stop i H ∧ Qd H) ∨ ((Itl K a).go i H ∧ ∃ Nx : Hp → Prop, (∀ H', Nx H' → ∃ m', m' < m ∧ W (i + 1) m' H') ∧ ∀ x H', (Itl K a).yld i H x H' → g x (wipe σ vs) H' fun σ2 H2 => wipe σ2 vs = wipe σ vs ∧ tt σ2 H2 fun b H3 =>
        if b = true then te σ2 H3 fun y H4 => ∃ acc, H4 D = some (.lst acc) ∧ acc.length < sizeLine ∧ Nx (upd H4 D (.lst (acc ++ [y]))) else Nx H3) := by
  refine lc_list (K := K) (a := a) (xs := nVl T) (tt := tt) (fun i H => Adv [] H1 H ∧ H D = some (.lst (((T.take i).filter c).map ys))) ⟨Adv.new hD, upd_same⟩ (fun i H _ p => SqL.of (p.1.same _ _ src)) (fun i x H hx p => ?_) (fun H p => ?_)
  · obtain ⟨k, hk, rfl⟩ := nVl_gt hx
    refine hs k H _ (fun y H4 => ∃ acc, H4 D = some (.lst acc) ∧ acc.length < sizeLine ∧ Adv [] H1 (upd H4 D (.lst (acc ++ [y]))) ∧ (upd H4 D (.lst (acc ++ [y]))) D = some (.lst (((T.take (i + 1)).filter c).map ys)))
      (fun H3 => Adv [] H1 H3 ∧ H3 D = some (.lst (((T.take (i + 1)).filter c).map ys))) (List.mem_of_getElem? hk) p.1 p.2 (fun hc H4 e4 a4 => ⟨_, e4, ?_, Adv.mut a4 hD, ?_⟩) (fun hc H4 e4 a4 => ⟨a4, ?_⟩)
    · have h1 := List.length_filter_le c (T.take i)
      rw [List.length_take] at h1
      rw [List.length_map, sizeLine_eq]
      omega
    · rw [upd_same, take_snc hk, List.filter_append, List.map_append, List.filter_cons, if_pos hc]
      rfl
    · rw [e4, take_snc hk, List.filter_append, List.filter_cons, if_neg (by rw [hc]; decide), List.filter_nil, List.append_nil]
  · obtain ⟨p1, p2⟩ := p
    rw [nVl_lth, List.take_length] at p2
    exact hd H p1 p2
end
end LL

set_option Elab.async false
set_option linter.all false
set_option maxRecDepth 100000
set_option maxHeartbeats 400000
/-! LIsA: isinstance of the held error in its suite, its class not yet known -/
namespace LL
open PySem PySem.Spec PyProof.Rows L2 L2H
def rIsA (K : PySem.W.Frag) (cls : Value) (a : Addr) (d : Option Addr) : List V → Hp → VK → Prop := fun xs H Q => ∃ (D : Addr), cls = .ref D ∧ ExcC K D ∧ rIsP K D a d xs H Q
end LL

set_option Elab.async false
set_option linter.all false
set_option maxRecDepth 100000
set_option maxHeartbeats 400000
/-! LLt: x < y of ints or of tuples of ints; targets that are pairs, inside a block -/
namespace LL
open PySem PySem.Spec PyProof.Rows L2
section
variable {X : Cx}
def rLtT (K : PySem.W.Frag) : R2 := fun x y H Q => ∃ (a b : Addr) (ns ms : List Int), x = .ref a ∧ y = .ref b ∧ SqT K H a (ns.map V.int) ∧ SqT K H b (ms.map V.int) ∧
  Q (.bl (Ob.lexAt (fun j => decide (ns.getD j 0 = ms.getD j 0)) (fun j => decide (ns.getD j 0 < ms.getD j 0)) (decide (ns.length < ms.length)) 0 (min ns.length ms.length))) H
/-- both ints, or both tuples of ints -/
def rLtA (K : PySem.W.Frag) : R2 := fun x y H Q => rI0 (fun i j => .bl (decide (i < j))) x y H Q ∨ rLtT K x y H Q
theorem pg_tupK (K : PySem.W.Frag) (hK : X.K = K) {pos : Pos} {es : List Expr} {k : Nat} {t : TGs} {n : Nat} (hc : X.calm = true) (h : PGs X es t)
    (hn : (assignEach es X.env).length = n := by rfl) (hst : (assignEach es X.env).findIdx? (·.1) = none := by rfl) : PG X (.Tuple es k pos) (gTup K n t) := by
  subst hK
  exact pg_tup hc h hn hst
theorem ix_listK (K : PySem.W.Frag) (hK : X.K = K) : IxR X (rIxL K) := by
  subst hK
  exact ix_list
theorem ix_tupK (K : PySem.W.Frag) (hK : X.K = K) : IxR X (rIxT K) := by
  subst hK
  exact ix_tup
end
end LL

set_option Elab.async false
set_option linter.all false
set_option maxRecDepth 100000
set_option maxHeartbeats 400000
/-! LMod: models as masks; truths as masks -/
namespace LL
open PySem PySem.Spec PyProof.Rows L2
/-- what world v sees -/
def sA (ss : List Nat) (v : Nat) : Nat := ss.getD v 0
def arcsF (ss : List Nat) : List (Nat × Nat) := (List.range ss.length).flatMap fun v => (bitsL ss.length (sA ss v)).map fun w => (v, w)
def ltP (a b : Nat × Nat) : Prop := a.1 < b.1 ∨ (a.1 = b.1 ∧ a.2 < b.2)
/-! ### the masks of arcs -/
def masksF (n : Nat) (arcs : List (Nat × Nat)) : List Nat := arcs.foldl (fun m a => m.set a.1 (sA m a.1 ||| 2 ^ a.2)) (List.replicate n 0)
theorem sA_set {m : List Nat} {v x u : Nat} (hv : v < m.length) : sA (m.set v x) u = if u = v then x else sA m u := by
  unfold sA
  rw [List.getD_eq_getElem?_getD, List.getD_eq_getElem?_getD, List.getElem?_set]
  by_cases e : v = u
  · subst e; simp [hv]
  · rw [if_neg e, if_neg fun z => e z.symm]
/-! ### models -/
def loopsL (ss : List Nat) : List Nat := (List.range ss.length).filter fun v => (sA ss v).testBit v
def transB (ss : List Nat) : Bool := (arcsF ss).all fun a => decide (sA ss a.1 ||| sA ss a.2 = sA ss a.1)
def propB (x : Str) (ss : List Nat) : Bool := if x = "classical" then decide (arcsF ss = []) else if x = "k" then true else decide ((loopsL ss).length = if x = "gl" then 0 else ss.length) && transB ss
def keptB (ss : List Nat) (L : Nat → Nat) : Bool := (List.range 8).all fun i => (bitsL ss.length (L i)).all fun v => decide (sA ss v ||| L i = L i)
def pD (a : Nat × Nat) : PyData := .tuple [.int (a.1 : Nat), .int (a.2 : Nat)]
def ltD (n : Nat) (L : Nat → Nat) : List PyData := (List.range 8).map fun i => .list (nD (bitsL n (L i)))
def modD (ss : List Nat) (L : Nat → Nat) : PyData := .tuple [.int (ss.length : Nat), .list ((arcsF ss).map pD), .tuple (ltD ss.length L)]
/-- a model of the right form -/
structure RtM (ss : List Nat) (L : Nat → Nat) : Prop where
  pos : 1 ≤ ss.length
  le : ss.length ≤ 256
  lt : ∀ x ∈ ss, x < 2 ^ ss.length
  ll : ∀ i, L i < 2 ^ ss.length
/-! ### truths -/
def every (n : Nat) : Nat := 2 ^ n - 1
def boxM (ss : List Nat) (h : Nat) : Nat := bitsN ((List.range ss.length).filter fun v => decide (sA ss v ||| h = h))
def tmS (intu : Bool) (ss : List Nat) (L : Nat → Nat) (f : List Nat) : Nd → Nat
  | .letter i => L i
  | .no => 0
  | .bin .and j k => sA f j &&& sA f k
  | .bin .or j k => sA f j ||| sA f k
  | .bin .imp j k => if intu = true then boxM ss ((every ss.length ^^^ sA f j) ||| sA f k) else (every ss.length ^^^ sA f j) ||| sA f k
  | .box j => boxM ss (sA f j)
def tmF (intu : Bool) (ss : List Nat) (L : Nat → Nat) (ns : List Nd) : List Nat := ns.foldl (fun f n => f ++ [tmS intu ss L f n]) []
end LL

set_option Elab.async false
set_option linter.all false
set_option maxRecDepth 100000
set_option maxHeartbeats 400000
/-! LSch: the schemes T, 4, Lob, K and their arcs -/
namespace LL
open PySem PySem.Spec PyProof.Rows L2
def im (n a b : Nat) : Nat := (every n ^^^ a) ||| b
/-! ### what holds of arcs -/
section
variable {ss : List Nat}
def Rfx (ss : List Nat) : Prop := ∀ v, v < ss.length → (sA ss v).testBit v = true
def Irr (ss : List Nat) : Prop := ∀ v, v < ss.length → (sA ss v).testBit v = false
def Trn (ss : List Nat) : Prop := ∀ u v, u < ss.length → v < ss.length → (sA ss u).testBit v = true → Sub (sA ss v) (sA ss u)
/-! ### the refuters -/
def awayL (ss : List Nat) : List Nat := (List.range ss.length).filter fun v => !(sA ss v).testBit v
def gapsF (ss : List Nat) : List (Nat × Nat × Nat) := (List.range ss.length).flatMap fun u => (bitsL ss.length (sA ss u)).flatMap fun v => ((bitsL ss.length (sA ss v)).filter fun w => !(sA ss u).testBit w).map fun w => (u, v, w)
/-- what refutes T, 4, Lob -/
def refT (ss : List Nat) : Option Nat := (awayL ss).head?.map fun v => every ss.length ^^^ 2 ^ v
def ref4 (ss : List Nat) : Option Nat := (gapsF ss).head?.map fun g => sA ss g.1
def refL (ss : List Nat) : Option Nat := match (loopsL ss).head? with
  | some l => some (every ss.length ^^^ 2 ^ l)
  | none => (gapsF ss).head?.map fun g => every ss.length ^^^ (2 ^ g.2.1 ||| 2 ^ g.2.2)
end
/-! ### the sheet of the schemes -/
def otherI (i : Nat) : Nat := if i = 0 then 1 else 0
def schN (i : Nat) : List Nd := [.letter i, .letter (otherI i), .box 0, .bin .imp 2 0, .box 2, .bin .imp 2 4, .box 3, .bin .imp 6 2, .bin .imp 0 1, .box 8, .box 1, .bin .imp 2 10, .bin .imp 9 11, .bin .imp 0 2]
def schT (ss : List Nat) (p : Nat) : Nat := im ss.length (boxM ss p) p
def sch4 (ss : List Nat) (p : Nat) : Nat := im ss.length (boxM ss p) (boxM ss (boxM ss p))
def schL (ss : List Nat) (p : Nat) : Nat := im ss.length (boxM ss (schT ss p)) (boxM ss p)
def schK (ss : List Nat) (p q : Nat) : Nat := im ss.length (boxM ss (im ss.length p q)) (im ss.length (boxM ss p) (boxM ss q))
def schP (ss : List Nat) (p : Nat) : Nat := im ss.length p (boxM ss p)
end LL

set_option Elab.async false
set_option linter.all false
set_option maxRecDepth 100000
set_option maxHeartbeats 400000
/-! LShOk: a right sheet has no wrong row -/
namespace LL
open PySem PySem.Spec PyProof.Rows L2
theorem isNum_nat {lo hi : Int} {k : Nat} (h1 : lo ≤ k) (h2 : (k : Int) ≤ hi) : isNum lo hi (.int (k : Nat)) = true := by
  show (decide (lo ≤ (k : Int)) && decide ((k : Int) ≤ hi)) = true
  rw [decide_eq_true h1, decide_eq_true h2]
  rfl
variable [KW]
theorem nodeB_eq {boxed : Bool} {row : Int} {w : Str} {ps : List PyData} : nodeB boxed row (.tuple (.str w :: ps)) = if nItems w = some (ps.length + 1) then (if w = "letter" then ps.all (isNum 0 7) else if (decide (w = "box") && !boxed) = true then false else ps.all (isNum 0 (row - 1))) else false := rfl
theorem nd_nodeB {boxed : Bool} {at_ : Nat} {n : Nd} (h : n.ok boxed at_ = true) : nodeB boxed (at_ : Int) n.data = true := by
  cases n with
  | no => rfl
  | letter i =>
    have h : i ≤ 7 := of_decide_eq_true h
    refine (nodeB_eq (w := "letter") (ps := [.int (i : Nat)])).trans ?_
    rw [if_pos (show nItems "letter" = some ([PyData.int ((i : Nat) : Int)].length + 1) from (show nItems "letter" = some 2 from by decide)), if_pos rfl, List.all_cons, isNum_nat (by omega) (by omega)]
    rfl
  | bin o j k =>
    have h : (decide (j < at_) && decide (k < at_)) = true := h
    rw [Bool.and_eq_true] at h
    have h1 := of_decide_eq_true h.1
    have h2 := of_decide_eq_true h.2
    refine (nodeB_eq (w := o.str) (ps := [.int (j : Nat), .int (k : Nat)])).trans ?_
    rw [if_pos (show nItems o.str = some ([PyData.int ((j : Nat) : Int), .int ((k : Nat) : Int)].length + 1) from (show nItems o.str = some 3 from by cases o <;> decide)), if_neg (op_no o).2.1, decide_eq_false (op_no o).2.2, Bool.false_and, if_neg (by decide), List.all_cons, List.all_cons, isNum_nat (by omega) (by omega), isNum_nat (by omega) (by omega)]
    rfl
  | box j =>
    have h : (boxed && decide (j < at_)) = true := h
    rw [Bool.and_eq_true] at h
    obtain ⟨rfl, h2⟩ := h
    have h2 := of_decide_eq_true h2
    refine (nodeB_eq (w := "box") (ps := [.int (j : Nat)])).trans ?_
    rw [if_pos (show nItems "box" = some ([PyData.int ((j : Nat) : Int)].length + 1) from (show nItems "box" = some 2 from by decide)), if_neg (by decide), if_neg (by decide), List.all_cons, isNum_nat (by omega) (by omega)]
    rfl
theorem wrongF_ok {most : Int} {boxed : Bool} : ∀ (rest pre : List Nd), okSheet boxed (pre ++ rest) → ((pre ++ rest).length : Int) ≤ most → wrongF most boxed (pre.length : Nat) (pre.map Nd.keys) (rest.map Nd.data) = none
  | [], pre, _, _ => by
    rw [List.map_nil]
    unfold wrongF
    rfl
  | n :: rest, pre, ok, hl => by
    rw [List.length_append, List.length_cons] at hl
    rw [List.map_cons]
    unfold wrongF
    have e1 : ((pre.length : Nat) : Int) < most := by omega
    have hn : n.ok boxed pre.length = true := ok.2 pre.length n (by rw [List.getElem?_append_right (Nat.le_refl _), Nat.sub_self]; rfl)
    rw [if_pos e1, if_pos (nd_nodeB hn), Nd.keysD]
    have hm : memK n.keys (pre.map Nd.keys) = false := by
      cases c : memK n.keys (pre.map Nd.keys) with
      | false => rfl
      | true =>
        obtain ⟨m, hm, e⟩ := List.mem_map.mp (memK_iff.mp c)
        have := keys_inj e
        subst this
        have nd := ok.1
        rw [List.nodup_append] at nd
        exact absurd rfl (nd.2.2 m hm m List.mem_cons_self)
    rw [if_neg (by rw [hm]; decide)]
    have := wrongF_ok (most := most) (boxed := boxed) rest (pre ++ [n]) (by rw [List.append_assoc]; exact ok) (by simp; omega)
    rw [List.length_append, List.map_append] at this
    exact this
theorem wrongD_ok {most : Int} {boxed : Bool} {ns : List Nd} (ok : okSheet boxed ns) (hl : (ns.length : Int) ≤ most) : wrongD most boxed (.list (ns.map Nd.data)) = none := wrongF_ok ns [] ok hl
end LL

set_option Elab.async false
set_option linter.all false
set_option maxRecDepth 100000
set_option maxHeartbeats 400000
/-! LRig: iteration over a list or a tuple; dicts of masks; right models -/
namespace LL
open PySem PySem.Spec PyProof.Rows L2
def iSq (K : PySem.W.Frag) (tl : TE) : TI := fun σ H R => iList K tl σ H R ∨ iTup K tl σ H R
theorem op_inK {X : Cx} (K : PySem.W.Frag) (hK : X.K = K) : OpR X (compareOp .In) (rIn K false) := by
  subst hK
  exact op_in_seq
section
variable [KW]
/-! ### {i: mask} -/
def LtD (H : Hp) (d : Addr) (f : Nat → Option Nat) : Prop := ∃ kvs : List (Key × V), H d = some (.dK kvs) ∧ kvs.length ≤ 100 ∧ ∀ i : Nat, valV kvs (Sum.inl ((i : Nat) : Int)) = (f i).map fun k => V.int (k : Nat)
theorem LtD.get {H : Hp} {d : Addr} {f : Nat → Option Nat} (x : LtD H d f) (i : Nat) : DGet H d (.int (i : Nat)) ((f i).map fun k => V.int (k : Nat)) := by
  obtain ⟨kvs, hd, _, hv⟩ := x
  have := DGet.k (k := Sum.inl ((i : Nat) : Int)) hd
  rw [hv i] at this
  exact this
theorem LtD.adv {M : List Addr} {H H' : Hp} {d : Addr} {f : Nat → Option Nat} (x : LtD H d f) (a : Adv M H H') (h : d ∉ M) : LtD H' d f := by
  obtain ⟨kvs, hd, hl, hv⟩ := x
  exact ⟨kvs, a _ _ h hd, hl, hv⟩
theorem LtD.nil {H : Hp} {d : Addr} (h : H d = some (.dK [])) : LtD H d (fun _ => none) := ⟨[], h, by simp, fun i => rfl⟩
end
/-! ### right models -/
def badA (ss : List Nat) (a : Nat × Nat) : Bool := !decide (sA ss a.1 ||| sA ss a.2 = sA ss a.1)
def badK (ss : List Nat) (k : Nat) : Bool := !decide (boxM ss k &&& k = k)
/-! ### truths are masks -/
end LL

set_option Elab.async false
set_option linter.all false
set_option maxRecDepth 100000
set_option maxHeartbeats 400000
/-! LMdl: what places tell of arcs -/
namespace LL
open PySem PySem.Spec PyProof.Rows L2
section
variable {ss : List Nat}
def okT (ss : List Nat) (p : Nat) : Bool := decide (schT ss p = every ss.length)
def ok4 (ss : List Nat) (p : Nat) : Bool := decide (sch4 ss p = every ss.length)
def okL (ss : List Nat) (p : Nat) : Bool := decide (schL ss p = every ss.length)
/-- what the refuter r tells of ok -/
def Tells (ss : List Nat) (r : Option Nat) (ok : Nat → Bool) : Prop := (r = none → ∀ p, p < 2 ^ ss.length → ok p = true) ∧ ∀ p, r = some p → p < 2 ^ ss.length ∧ ok p = false
theorem Tells.all {r : Option Nat} {ok : Nat → Bool} (h : Tells ss r ok) {places : List Nat} (h1 : ∀ p ∈ places, p < 2 ^ ss.length) (h2 : ∀ p, r = some p → p ∈ places) : places.all ok = r.isNone := by
  cases r with
  | none => exact List.all_eq_true.mpr fun p hp => h.1 rfl p (h1 p hp)
  | some p => exact List.all_eq_false.mpr ⟨p, h2 p rfl, by rw [(h.2 p rfl).2]; decide⟩
/-- the places: below, and all refuters among them -/
structure Plc (ss places : List Nat) : Prop where
  lt : ∀ p ∈ places, p < 2 ^ ss.length
  t : ∀ p, refT ss = some p → p ∈ places
  f : ∀ p, ref4 ss = some p → p ∈ places
  l : ∀ p, refL ss = some p → p ∈ places
def refsL (ss : List Nat) : List Nat := [refT ss, ref4 ss, refL ss].filterMap id
end
end LL

set_option Elab.async false
set_option linter.all false
set_option maxRecDepth 100000
set_option maxHeartbeats 400000
/-! LKep: what is kept; excluded middle -/
namespace LL
open PySem PySem.Spec PyProof.Rows L2
section
variable {b : Bool} {ss : List Nat} {L : Nat → Nat}
/-- p or not p -/
def emV (ss : List Nat) (p : Nat) : Nat := p ||| boxM ss (im ss.length p 0)
/-- what holds goes on to hold -/
def Pers (ss : List Nat) (p : Nat) : Prop := Sub p (boxM ss p)
def waysF (ss : List Nat) : List (Nat × Nat) := (arcsF ss).filter fun a => !(sA ss a.2).testBit a.1
end
end LL

set_option Elab.async false
set_option linter.all false
set_option maxRecDepth 100000
set_option maxHeartbeats 2000000
namespace LH
open PySem PySem.Spec PyProof.Rows L2 LL He
section
variable {P : Program} {K : PySem.W.Frag} {mg : Str → Option Value} {w : World} {h : Heap}
theorem df_of {fa : List Fa} {fn : List DefD} (X : K.In h) (G : h.Ns mainGlobals mg) (c : SaysD fa fn K) (i j : Nat) {x : Str} {st : Stmt} {ps : List Str} (hd : fn[i]? = some (dd x st)) (hg : fa[j]? = some (.glo x))
    (hb : ∀ (kV doc pm : Value) (an : Option Addr) (cdv ct : Value) (us : List Value), us.length = ps.length → bindArgs (PySem.W.fnOf x x (defArgs st) (defBody st) (defScope st) .none kV doc pm an cdv ct) ⟨us, []⟩ = pure (ps.zip us)) : Nonempty (Df K mg x st ps) := by
  obtain ⟨fd, F⟩ := c.def_ i (d := dd x st) hd
  have F' := fun_of F
  exact ⟨⟨_, fd, F', glo_ok X G (c.fact j hg), F'.binds hb⟩⟩
theorem items_look (z : Str) : look itemsL z = (nItems z).map fun k => (k : Int) := by
  unfold nItems itemsL
  simp only [look]
  by_cases h1 : z = "letter"
  · subst h1; rfl
  by_cases h2 : z = "no"
  · subst h2; rfl
  by_cases h3 : z = "and"
  · subst h3; rfl
  by_cases h4 : z = "or"
  · subst h4; rfl
  by_cases h5 : z = "if"
  · subst h5; rfl
  by_cases h6 : z = "box"
  · subst h6; rfl
  rw [if_neg h1, if_neg h2, if_neg h3, if_neg h4, if_neg h5, if_neg h6, if_neg (Ne.symm h1), if_neg (Ne.symm h2), if_neg (Ne.symm h3), if_neg (Ne.symm h4), if_neg (Ne.symm h5), if_neg (Ne.symm h6)]
  rfl
theorem items_at (e : itemsB "ITEMS" itemsL K = true) (z : Str) : ∃ r, PySem.W.nsIn K (ga K "ITEMS") z = some r ∧ RelV (match nItems z with | some k => V.int (k : Nat) | none => V.non) (r.getD .none) := by
  obtain ⟨r, h1, h2⟩ := itemsB_ok e z
  refine ⟨r, h1, ?_⟩
  have el := items_look z
  cases n : nItems z with
  | none =>
    rw [n] at el
    rw [show look itemsL z = none from el] at h2
    exact h2
  | some k =>
    rw [n] at el
    rw [show look itemsL z = some (k : Int) from el] at h2
    exact h2
end
end LH

set_option Elab.async false
set_option linter.all false
set_option maxRecDepth 100000
set_option maxHeartbeats 400000
/-! LMrg: sheets merged and tidied, plainly -/
namespace LL
open PySem PySem.Spec PyProof.Rows L2
variable [KW]
def atF (new : List Nat) (p : Nat) : Nat := new.getD p 0
def mrgG : List Nd → List Nd → List Nat → List Nd × List Nat
  | ns, [], new => (ns, new)
  | ns, n :: ms, new => mrgG (rowF ns (n.moved (atF new))).2 ms (new ++ [(rowF ns (n.moved (atF new))).1])
def mrgF (ns ms : List Nd) : List Nd × List Nat := mrgG ns ms []
def tdyG (sheet : List Nd) : List Nat → List Nd → (Nat → Nat) → List Nd × (Nat → Nat)
  | [], ns, f => (ns, f)
  | i :: l, ns, f => tdyG sheet l (rowF ns ((sheet[i]?.getD .no).moved f)).2 (fun x => if x = i then (rowF ns ((sheet[i]?.getD .no).moved f)).1 else f x)
def tdyF (sheet : List Nd) (rows : List Nat) : List Nd × (Nat → Nat) := tdyG sheet (belowF sheet rows) [] (fun _ => 0)
theorem rowLe (ns : List Nd) (n : Nd) : (rowF ns n).2.length ≤ ns.length + 1 := by
  unfold rowF
  split <;> simp
/-- what holds while ms is merged into ns -/
structure MrgOk (bx : Bool) (ns ms : List Nd) (i : Nat) (r : List Nd × List Nat) : Prop where
  ok : okSheet bx r.1
  pre : ns <+: r.1
  le : r.1.length ≤ ns.length + i
  len : r.2.length = i
  lt : ∀ p, p < i → atF r.2 p < r.1.length
  at_ : ∀ (p : Nat) (n : Nd), p < i → ms[p]? = some n → r.1[atF r.2 p]? = some (n.moved (atF r.2))
/-- what holds while the rows l of a sheet are taken over -/
structure TdyOk (bx : Bool) (sheet : List Nd) (l : List Nat) (r : List Nd × (Nat → Nat)) : Prop where
  ok : okSheet bx r.1
  le : r.1.length ≤ l.length
  lt : ∀ i ∈ l, r.2 i < r.1.length
  at_ : ∀ (i : Nat) (n : Nd), i ∈ l → sheet[i]? = some n → r.1[r.2 i]? = some (n.moved r.2)
  all : ∀ k, k < r.1.length → ∃ i ∈ l, r.2 i = k
/-! ### truths -/
section
variable {b : Bool} {ss : List Nat} {L : Nat → Nat}
end
section
variable {K : PySem.W.Frag}
end
end LL

set_option Elab.async false
set_option linter.all false
set_option maxRecDepth 100000
set_option maxHeartbeats 400000
/-! LWar: the transitive closure of arcs, arcs along an order, what is held upwards -/
namespace LL
open PySem PySem.Spec PyProof.Rows L2
/-- the closure over the worlds below i -/
structure War (ss : List Nat) (i : Nat) (r : List Nat) : Prop where
  len : r.length = ss.length
  lt : ∀ x ∈ r, x < 2 ^ ss.length
  inc : ∀ v w, (sA ss v).testBit w = true → (sA r v).testBit w = true
  min : ∀ T : Nat → Nat → Prop, (∀ a b c, T a b → T b c → T a c) → (∀ v w, (sA ss v).testBit w = true → T v w) → ∀ v w, (sA r v).testBit w = true → T v w
  cl : ∀ u, u < i → ∀ v w, (sA r v).testBit u = true → (sA r u).testBit w = true → (sA r v).testBit w = true
section
variable {ss r r' : List Nat} {i : Nat}
theorem War.init (h : ∀ x ∈ ss, x < 2 ^ ss.length) : War ss 0 ss := ⟨rfl, h, fun v w h => h, fun T _ h => h, fun u hu => absurd hu (by omega)⟩
theorem War.step (x : War ss i r) (hl : r'.length = ss.length) (hlt : ∀ x ∈ r', x < 2 ^ ss.length) (h : ∀ v, sA r' v = if (sA r v).testBit i = true then sA r v ||| sA r i else sA r v) : War ss (i + 1) r' := by
  have iff : ∀ v w, (sA r' v).testBit w = true ↔ (sA r v).testBit w = true ∨ ((sA r v).testBit i = true ∧ (sA r i).testBit w = true) := fun v w => by
    rw [h v]
    by_cases e : (sA r v).testBit i = true
    · rw [if_pos e, Nat.testBit_or, Bool.or_eq_true]
      exact ⟨fun z => z.elim .inl (fun z => .inr ⟨e, z⟩), fun z => z.elim .inl (fun z => .inr z.2)⟩
    · rw [if_neg e]
      exact ⟨.inl, fun z => z.elim id (fun z => absurd z.1 e)⟩
  refine ⟨hl, hlt, fun v w hv => (iff v w).mpr (.inl (x.inc v w hv)), fun T tr hT v w hv => ?_, fun u hu v w h1 h2 => ?_⟩
  · rcases (iff v w).mp hv with z | ⟨z1, z2⟩
    · exact x.min T tr hT v w z
    · exact tr v i w (x.min T tr hT v i z1) (x.min T tr hT i w z2)
  · rw [iff] at h1 h2 ⊢
    rcases Nat.lt_or_eq_of_le (Nat.lt_succ_iff.mp hu) with hu | rfl
    · have c := x.cl u hu
      rcases h1 with h1 | ⟨h1, h1'⟩
      · rcases h2 with h2 | ⟨h2, h2'⟩
        · exact .inl (c v w h1 h2)
        · exact .inr ⟨c v i h1 h2, h2'⟩
      · rcases h2 with h2 | ⟨h2, h2'⟩
        · exact .inr ⟨h1, c i w h1' h2⟩
        · exact .inr ⟨h1, h2'⟩
    · have a : (sA r v).testBit u = true := h1.elim id (fun z => z.1)
      have b : (sA r u).testBit w = true := h2.elim id (fun z => z.2)
      exact .inr ⟨a, b⟩
/-- the arcs go along an order -/
def OrdR (ord ss : List Nat) : Prop := ∀ v w, (sA ss v).testBit w = true → ∃ a b : Nat, a < b ∧ ord[a]? = some v ∧ ord[b]? = some w
theorem sA_set' {m : List Nat} {v x u : Nat} : sA (m.set v x) u = if u = v ∧ v < m.length then x else sA m u := by
  by_cases hv : v < m.length
  · rw [sA_set hv]
    by_cases e : u = v
    · rw [if_pos e, if_pos ⟨e, hv⟩]
    · rw [if_neg e, if_neg (fun z => e z.1)]
  · rw [List.set_eq_of_length_le (by omega), if_neg (fun z => hv z.2)]
/-- an arc more -/
theorem OrdR.put {ord : List Nat} (h : OrdR ord ss) {v w a b : Nat} (hab : a < b) (ha : ord[a]? = some v) (hb : ord[b]? = some w) : OrdR ord (ss.set v (sA ss v ||| 2 ^ w)) := fun x y hxy => by
  rw [sA_set'] at hxy
  split at hxy
  · rename_i z
    rw [Nat.testBit_or, Bool.or_eq_true] at hxy
    rcases hxy with hxy | hxy
    · exact h x y (by rw [z.1]; exact hxy)
    · rw [Nat.testBit_two_pow] at hxy
      have e : w = y := of_decide_eq_true hxy
      exact ⟨a, b, hab, by rw [z.1]; exact ha, by rw [← e]; exact hb⟩
  · exact h x y hxy
theorem OrdR.zero {ord : List Nat} (n : Nat) : OrdR ord (List.replicate n 0) := fun v w h => by
  have e : sA (List.replicate n 0) v = 0 := by
    unfold sA
    rw [List.getD_eq_getElem?_getD, List.getElem?_replicate]
    split <;> rfl
  rw [e, Nat.zero_testBit] at h
  cases h
/-! what is held upwards -/
def herS (ss : List Nat) (h v : Nat) : Nat := if h.testBit v = true then h ||| sA ss v else h
def herF (ss : List Nat) (n m : Nat) : Nat := (List.range n).foldl (herS ss) m
end
end LL

set_option Elab.async false
set_option linter.all false
set_option maxRecDepth 100000
set_option maxHeartbeats 400000
/-! LEq: lists of numbers and of tuples of numbers are compared -/
namespace LL
open PySem PySem.Spec PyProof.Rows L2
variable [KW]
def tsD (rss : List (List Nat)) : List PyData := rss.map fun r => .tuple (nD r)
theorem nD_lay : ∀ rows : List Nat, PyData.canLayAll0 (nD rows) = true ∧ PyData.depthAll (nD rows) = 0
  | [] => ⟨rfl, rfl⟩
  | r :: rs => by
    obtain ⟨h1, h2⟩ := nD_lay rs
    show PyData.canLayAll0 (PyData.int (r : Nat) :: nD rs) = true ∧ PyData.depthAll (PyData.int (r : Nat) :: nD rs) = 0
    unfold PyData.canLayAll0 PyData.depthAll
    rw [h1, h2]
    exact ⟨by simp [PyData.canLay0], by simp [PyData.depth]⟩
theorem tsD_lay : ∀ rss : List (List Nat), PyData.canLayAll0 (tsD rss) = true ∧ PyData.depthAll (tsD rss) ≤ 1
  | [] => ⟨rfl, by decide⟩
  | r :: rs => by
    obtain ⟨h1, h2⟩ := tsD_lay rs
    obtain ⟨h3, h4⟩ := nD_lay r
    show PyData.canLayAll0 (PyData.tuple (nD r) :: tsD rs) = true ∧ PyData.depthAll (PyData.tuple (nD r) :: tsD rs) ≤ 1
    unfold PyData.canLayAll0 PyData.depthAll PyData.canLay0 PyData.depth
    rw [h1, h3, h4]
    exact ⟨rfl, by omega⟩
theorem eqv_sh {d : PyData} (h : SeqAt.shaped d = true) : PyData.eqv d d = true := SeqAt.eqv_refl d (SeqAt.canLay_of_shaped h)
section
variable {K : PySem.W.Frag} {w : World} {H : Hp} {M : List Addr}
theorem dp_nats : ∀ rows : List Nat, DpAll K H (nVl rows) (nD rows)
  | [] => .nil
  | r :: rs => .cons (.int _) (dp_nats rs)
end
end LL

set_option Elab.async false
set_option linter.all false
set_option maxRecDepth 100000
set_option maxHeartbeats 400000
/-! LPut: a formula put for a letter, plainly -/
namespace LL
open PySem PySem.Spec PyProof.Rows L2
variable [KW]
def putS (i o : Nat) (ns : List Nd) (n : Nd) (f : Nat → Nat) : Nat × List Nd := if n = .letter i then (o, ns) else rowF ns (n.moved f)
def putG (sheet : List Nd) (i o : Nat) : List Nat → List Nd → (Nat → Nat) → List Nd × (Nat → Nat)
  | [], ns, f => (ns, f)
  | r :: l, ns, f => putG sheet i o l (putS i o ns (sheet[r]?.getD .no) f).2 (fun x => if x = r then (putS i o ns (sheet[r]?.getD .no) f).1 else f x)
def putF (sheet : List Nd) (row i o : Nat) : List Nd × (Nat → Nat) := putG sheet i o (belowF sheet [row]) sheet (fun _ => 0)
/-- what holds while the rows l are taken over -/
structure PutOk (bx : Bool) (sheet : List Nd) (i o : Nat) (l : List Nat) (r : List Nd × (Nat → Nat)) : Prop where
  ok : okSheet bx r.1
  pre : sheet <+: r.1
  le : r.1.length ≤ sheet.length + l.length
  lt : ∀ j ∈ l, r.2 j < r.1.length
  at_ : ∀ (j : Nat) (n : Nd), j ∈ l → sheet[j]? = some n → n ≠ .letter i → r.1[r.2 j]? = some (n.moved r.2)
  let_ : ∀ j : Nat, j ∈ l → sheet[j]? = some (.letter i) → r.2 j = o
/-! ### truths -/
section
variable {b : Bool} {ss : List Nat} {L : Nat → Nat}
/-- the letter i holds at the worlds m -/
def putL (L : Nat → Nat) (i m : Nat) : Nat → Nat := fun k => if k = i then m else L k
end
end LL

set_option Elab.async false
set_option linter.all false
set_option maxRecDepth 100000
set_option maxHeartbeats 400000
/-! LNdq: nodes are compared -/
namespace LL
open PySem PySem.Spec PyProof.Rows L2
variable [KW]
theorem nd_shaped (n : Nd) : SeqAt.shaped n.data = true := by
  have st : ∀ x : Str, PyData.strOk x = true → ∀ ks : List Nat, SeqAt.shaped (.tuple (.str x :: ks.map fun k => .int (k : Nat))) = true := fun x hx ks => by
    have h := nD_lay ks
    have e : (ks.map fun k : Nat => PyData.int (k : Nat)) = nD ks := rfl
    rw [e]
    unfold SeqAt.shaped PyData.canLay0 PyData.depth PyData.canLayAll0 PyData.depthAll
    rw [h.1, h.2]
    simp [PyData.canLay0, PyData.depth, hx]
  cases n with
  | no => exact st "no" (by decide +kernel) []
  | letter j => exact st "letter" (by decide +kernel) [j]
  | bin o j k => cases o <;> first | exact st "and" (by decide +kernel) [j, k] | exact st "or" (by decide +kernel) [j, k] | exact st "if" (by decide +kernel) [j, k]
  | box j => exact st "box" (by decide +kernel) [j]
section
variable {K : PySem.W.Frag} {w : World} {H : Hp} {M : List Addr}
theorem dp_keys : ∀ ks : List Key, DpAll K H (ks.map kV) (ks.map keyDt)
  | [] => .nil
  | .inl i :: ks => .cons (.int i) (dp_keys ks)
  | .inr x :: ks => .cons (.str x) (dp_keys ks)
theorem dp_nd (W : KWOk K w) {n : Nd} {v : V} (h : Is M H n.data v) : Dp K H v n.data := by
  obtain ⟨a, rfl, ha⟩ := nd_is h
  exact .tup (ha.sq W) (dp_keys n.keys)
theorem dp_nds (W : KWOk K w) : ∀ {ns : List Nd} {vs : List V}, IsDs M H (ns.map Nd.data) vs → DpAll K H vs (ns.map Nd.data)
  | [], vs, h => by
    have e : vs = [] := by
      have := h.len
      exact List.eq_nil_of_length_eq_zero this
    subst e
    exact .nil
  | n :: ns, vs, h => by
    have h : IsDs M H (n.data :: ns.map Nd.data) vs := h
    unfold IsDs at h
    obtain ⟨v, r, rfl, h1, h2⟩ := h
    exact .cons (dp_nd W h1) (dp_nds W h2)
end
theorem nds_lay : ∀ ns : List Nd, PyData.canLayAll0 (ns.map Nd.data) = true ∧ PyData.depthAll (ns.map Nd.data) ≤ 63
  | [] => ⟨rfl, by decide⟩
  | n :: ns => by
    obtain ⟨h1, h2⟩ := nds_lay ns
    have hs := nd_shaped n
    have hd : PyData.depth n.data ≤ 63 := by
      cases n with
      | no => decide +kernel
      | letter j => show PyData.depth (.tuple [.str "letter", .int (j : Nat)]) ≤ 63; simp [PyData.depth, PyData.depthAll]
      | bin o j k => show PyData.depth (.tuple [.str o.str, .int (j : Nat), .int (k : Nat)]) ≤ 63; simp [PyData.depth, PyData.depthAll]
      | box j => show PyData.depth (.tuple [.str "box", .int (j : Nat)]) ≤ 63; simp [PyData.depth, PyData.depthAll]
    show PyData.canLayAll0 (n.data :: ns.map Nd.data) = true ∧ PyData.depthAll (n.data :: ns.map Nd.data) ≤ 63
    unfold PyData.canLayAll0 PyData.depthAll
    rw [SeqAt.canLay_of_shaped hs, h1]
    exact ⟨rfl, by omega⟩
theorem nds_shaped (ns : List Nd) : SeqAt.shaped (.list (ns.map Nd.data)) = true := by
  obtain ⟨h1, h2⟩ := nds_lay ns
  unfold SeqAt.shaped PyData.canLay0 PyData.depth
  rw [h1, Bool.true_and, decide_eq_true_eq]
  omega
end LL

set_option Elab.async false
set_option linter.all false
set_option maxRecDepth 100000
set_option maxHeartbeats 400000
/-! LDcm: {k: v for r in rows}, rows a list of row numbers -/
namespace LL
open PySem PySem.Spec PyProof.Rows L2
section
variable [KW]
variable {K : PySem.W.Frag} {a D : Addr} {xs : List V} {g : TG} {tt : TT} {tk tv : TE} {vs : List Nat} {σ : L2.St} {H1 : Hp} {Qd : Hp → Prop}
theorem nVl_len (rows : List Nat) : (nVl rows).length = rows.length := List.length_map ..
theorem nVl_get {rows : List Nat} {i : Nat} {x : V} (h : (nVl rows)[i]? = some x) : ∃ r, rows[i]? = some r ∧ x = .int (r : Nat) := by
  unfold nVl at h
  rw [List.getElem?_map, Option.map_eq_some_iff] at h
  obtain ⟨r, h, rfl⟩ := h
  exact ⟨r, h, rfl⟩
/-- the dict tells f of each of the rows -/
def NewD (H : Hp) (d : Addr) (rows : List Nat) (f : Nat → Nat) : Prop := ∃ kvs : List (Key × V), H d = some (.dK kvs) ∧ ∀ r ∈ rows, valV kvs (Sum.inl ((r : Nat) : Int)) = some (.int (f r : Nat))
theorem NewD.get {H : Hp} {d : Addr} {rows : List Nat} {f : Nat → Nat} (x : NewD H d rows f) {r : Nat} (h : r ∈ rows) : DGet H d (.int (r : Nat)) (some (.int (f r : Nat))) := by
  obtain ⟨kvs, hd, hv⟩ := x
  have := DGet.k (k := Sum.inl ((r : Nat) : Int)) hd
  rw [hv r h] at this
  exact this
theorem NewD.adv {M : List Addr} {H H' : Hp} {d : Addr} {rows : List Nat} {f : Nat → Nat} (x : NewD H d rows f) (a : Adv M H H') (h : d ∉ M) : NewD H' d rows f := by
  obtain ⟨kvs, hd, hv⟩ := x
  exact ⟨kvs, a _ _ h hd, hv⟩
theorem NewD.same {H H' : Hp} {d : Addr} {rows : List Nat} {f : Nat → Nat} (x : NewD H d rows f) (a : Adv [] H H') : NewD H' d rows f := x.adv a (by simp)
theorem NewD.sub {H : Hp} {d : Addr} {rows rows' : List Nat} {f : Nat → Nat} (x : NewD H d rows f) (h : ∀ r ∈ rows', r ∈ rows) : NewD H d rows' f := by
  obtain ⟨kvs, hd, hv⟩ := x
  exact ⟨kvs, hd, fun r hr => hv r (h r hr)⟩
end
end LL

set_option Elab.async false
set_option linter.all false
set_option maxRecDepth 100000
set_option maxHeartbeats 1000000
/-! LPap: lines of papers as data; what makes a line right -/
namespace LL
open PySem PySem.Spec PyProof.Rows L2
inductive Rl | axm | no | giv | andL | orL | ifL | boxL | andR | orR | ifR | box | cut
  deriving DecidableEq
def Rl.str : Rl → Str
  | axm => "axiom" | no => "no" | giv => "given" | andL => "and left" | orL => "or left" | ifL => "if left" | boxL => "box left" | andR => "and right" | orR => "or right" | ifR => "if right" | box => "box" | cut => "cut"
def Rl.cnt : Rl → Nat
  | axm => 0 | no => 0 | giv => 1 | andL => 1 | orL => 2 | ifL => 2 | boxL => 1 | andR => 2 | orR => 1 | ifR => 1 | box => 1 | cut => 2
def rlAll : List Rl := [.axm, .no, .giv, .andL, .orL, .ifL, .boxL, .andR, .orR, .ifR, .box, .cut]
def rlOf (s : Str) : Option Rl := rlAll.find? fun r => r.str = s
theorem rlOf_str (r : Rl) : rlOf r.str = some r := by cases r <;> decide
theorem rlOf_some {s : Str} {r : Rl} (h : rlOf s = some r) : s = r.str := by
  have := List.find?_some h
  exact (of_decide_eq_true this).symm
theorem cnt_look (s : Str) : lookT cntL s = (rlOf s).map fun r => (r.cnt : Int) := by
  cases h : rlOf s with
  | some r => rw [rlOf_some h]; cases r <;> rfl
  | none =>
    have hn : ∀ r ∈ rlAll, ¬ r.str = s := fun r hr e => by
      have := List.find?_eq_none.mp h r hr
      exact this (decide_eq_true e)
    unfold cntL
    simp only [lookT]
    have n (r : Rl) : ¬ r.str = s := hn r (by cases r <;> decide)
    rw [if_neg (show ¬ ("axiom" : Str) = s from n .axm), if_neg (show ¬ ("no" : Str) = s from n .no), if_neg (show ¬ ("given" : Str) = s from n .giv), if_neg (show ¬ ("and left" : Str) = s from n .andL), if_neg (show ¬ ("or left" : Str) = s from n .orL), if_neg (show ¬ ("if left" : Str) = s from n .ifL), if_neg (show ¬ ("box left" : Str) = s from n .boxL), if_neg (show ¬ ("and right" : Str) = s from n .andR), if_neg (show ¬ ("or right" : Str) = s from n .orR), if_neg (show ¬ ("if right" : Str) = s from n .ifR), if_neg (show ¬ ("box" : Str) = s from n .box), if_neg (show ¬ ("cut" : Str) = s from n .cut)]
    rfl
theorem isNum_int {lo hi i : Int} : isNum lo hi (.int i) = true ↔ lo ≤ i ∧ i ≤ hi := by
  show (decide (lo ≤ i) && decide (i ≤ hi)) = true ↔ _
  rw [Bool.and_eq_true, decide_eq_true_iff, decide_eq_true_iff]
/-! ### a line -/
structure Ln where
  left : List Nat
  right : List Nat
  rule : Rl
  prem : List Nat
  main : Int
def Ln.data (l : Ln) : PyData := .tuple [.tuple (nD l.left), .tuple (nD l.right), .str l.rule.str, .tuple (nD l.prem), .int l.main]
def premB (at_ : Int) : PyData → Bool
  | .tuple ps => ps.all (isNum 0 (at_ - 1))
  | _ => false
/-- is this value a line over so many rows, the at-th one -/
def lineB (rows at_ : Nat) : PyData → Bool
  | .tuple [a, b, c, p, m] => rowsB rows a && (rowsB rows b && (match c with
    | .str s => (match rlOf s with
      | some r => (match p with | .tuple ps => decide (ps.length = r.cnt) | _ => false) && (premB at_ p && (if r = .no then isNum (-1) (-1) m else isNum 0 ((rows : Int) - 1) m))
      | none => false)
    | _ => false))
  | _ => false
structure WfL (rows at_ : Nat) (l : Ln) : Prop where
  left : rowsB rows (.tuple (nD l.left)) = true
  right : rowsB rows (.tuple (nD l.right)) = true
  cnt : l.prem.length = l.rule.cnt
  prem : ∀ p ∈ l.prem, p < at_
  no : l.rule = .no → l.main = -1
  main : l.rule ≠ .no → ∃ m : Nat, l.main = m ∧ m < rows
theorem lineB_of {rows at_ : Nat} {l : Ln} (w : WfL rows at_ l) : lineB rows at_ l.data = true := by
  show (rowsB rows (.tuple (nD l.left)) && (rowsB rows (.tuple (nD l.right)) && (match rlOf l.rule.str with
    | some r => decide ((nD l.prem).length = r.cnt) && (premB at_ (.tuple (nD l.prem)) && (if r = .no then isNum (-1) (-1) (.int l.main) else isNum 0 ((rows : Int) - 1) (.int l.main)))
    | none => false))) = true
  rw [w.left, w.right, Bool.true_and, Bool.true_and, rlOf_str]
  have h1 : decide ((nD l.prem).length = l.rule.cnt) = true := by
    unfold nD
    rw [List.length_map]
    exact decide_eq_true w.cnt
  have h2 : premB at_ (.tuple (nD l.prem)) = true := by
    show (l.prem.map fun r => PyData.int (r : Nat)).all (isNum 0 ((at_ : Int) - 1)) = true
    rw [List.all_map, List.all_eq_true]
    intro p hp
    have := w.prem p hp
    exact isNum_int.mpr ⟨by omega, by omega⟩
  show (decide ((nD l.prem).length = l.rule.cnt) && (premB at_ (.tuple (nD l.prem)) && (if l.rule = .no then isNum (-1) (-1) (.int l.main) else isNum 0 ((rows : Int) - 1) (.int l.main)))) = true
  rw [h1, h2, Bool.true_and, Bool.true_and]
  by_cases e : l.rule = .no
  · rw [if_pos e, w.no e]; decide
  · rw [if_neg e]
    obtain ⟨m, hm, hl⟩ := w.main e
    rw [hm]
    exact isNum_int.mpr ⟨by omega, by omega⟩
/-- the later parts of a line: its rule, premises, main -/
def cntB (n : Int) : PyData → Bool
  | .tuple ds => decide ((ds.length : Int) = n)
  | _ => false
def rlB (rows at_ : Nat) (r : Rl) (p m : PyData) : Bool := cntB r.cnt p && (premB at_ p && (if r = .no then isNum (-1) (-1) m else isNum 0 ((rows : Int) - 1) m))
def tlB (rows at_ : Nat) (c p m : PyData) : Bool := match c with
  | .str s => (match rlOf s with | some r => rlB rows at_ r p m | none => false)
  | _ => false
theorem line5 {rows at_ : Nat} {a b c p m : PyData} : lineB rows at_ (.tuple [a, b, c, p, m]) = (rowsB rows a && (rowsB rows b && tlB rows at_ c p m)) := by
  show (rowsB rows a && (rowsB rows b && (match c with
    | .str s => (match rlOf s with
      | some r => (match p with | .tuple ps => decide (ps.length = r.cnt) | _ => false) && (premB at_ p && (if r = .no then isNum (-1) (-1) m else isNum 0 ((rows : Int) - 1) m))
      | none => false)
    | _ => false))) = _
  congr 2
  unfold tlB
  cases c with
  | str s =>
    show (match rlOf s with
      | some r => (match p with | .tuple ps => decide (ps.length = r.cnt) | _ => false) && (premB at_ p && (if r = .no then isNum (-1) (-1) m else isNum 0 ((rows : Int) - 1) m))
      | none => false) = (match rlOf s with | some r => rlB rows at_ r p m | none => false)
    cases rlOf s with
    | none => rfl
    | some r =>
      show ((match p with | .tuple ps => decide (ps.length = r.cnt) | _ => false) && (premB at_ p && (if r = .no then isNum (-1) (-1) m else isNum 0 ((rows : Int) - 1) m))) = rlB rows at_ r p m
      unfold rlB
      congr 1
      cases p with
      | tuple ps =>
        show decide (ps.length = r.cnt) = decide ((ps.length : Int) = (r.cnt : Nat))
        exact decide_eq_decide.mpr ⟨fun e => by rw [e], fun e => Int.ofNat.inj e⟩
      | _ => rfl
  | _ => rfl
/-! ### what makes a line right -/
def ndA (ns : List Nd) (m : Nat) : Nd := ns[m]?.getD .no
/-- the node is of the rule's word -/
def fitsK : Rl → Nd → Bool
  | .andL, .bin o _ _ => decide (o.str = "and")
  | .orL, .bin o _ _ => decide (o.str = "or")
  | .ifL, .bin o _ _ => decide (o.str = "if")
  | .andR, .bin o _ _ => decide (o.str = "and")
  | .orR, .bin o _ _ => decide (o.str = "or")
  | .ifR, .bin o _ _ => decide (o.str = "if")
  | .boxL, .box _ => true
  | .box, .box _ => true
  | _, _ => false
/-- what the premises' sides may have more -/
def addF (r : Rl) (n : Nd) (m : Nat) : List (List Nat × List Nat) :=
  match r with
  | .axm => [] | .no => []
  | .giv => [([m], [])]
  | .cut => [([], [m]), ([m], [])]
  | .andL => [(n.parts, [])] | .boxL => [(n.parts, [])]
  | .orL => [(n.parts.take 1, []), (n.parts.drop 1, [])]
  | .ifL => [([], n.parts.take 1), (n.parts.drop 1, [])]
  | .andR => [([], n.parts.take 1), ([], n.parts.drop 1)]
  | .orR => [([], n.parts)]
  | .ifR => [(n.parts.take 1, n.parts.drop 1)] | .box => [(n.parts.take 1, n.parts.drop 1)]
def sidesD (p : List Nat × List Nat) : PyData := .tuple [.tuple (nD p.1), .tuple (nD p.2)]
def fitB (l : Ln) (a b : List Nat) : Bool := (l.left.all fun r => a.any fun x => decide (x = r)) && (l.right.all fun r => b.any fun x => decide (x = r))
def leftR : Rl → Bool
  | .andL => true | .orL => true | .ifL => true | .boxL => true | _ => false
/-- the rule lets this main -/
def askB (lg : Str) (ns : List Nd) (th : List Nat) (l : Ln) : Bool :=
  match l.rule with
  | .axm => l.left.any (fun x => decide ((x : Int) = l.main)) && l.right.any (fun x => decide ((x : Int) = l.main))
  | .no => l.left.any fun x => decide (ndA ns x = .no)
  | .giv => th.any fun x => decide ((x : Int) = l.main)
  | .cut => true
  | r => if (decide (r = .boxL) && !decide (lg = "s4")) || (decide (r = .box) && !(decide (lg = "k") || decide (lg = "s4") || decide (lg = "gl"))) then false
    else fitsK r (ndA ns l.main.toNat) && (if leftR r then l.left else l.right).any fun x => decide ((x : Int) = l.main)
def boxRoom (lg : Str) (ns : List Nd) (left : List Nat) (m : Nat) : List Nat :=
  (left.flatMap fun r => match ndA ns r with
    | .box j => (if lg = "s4" then [] else [j]) ++ (if lg = "k" then [] else [r])
    | _ => []) ++ (if lg = "gl" then [m] else [])
def roomF (lg : Str) (ns : List Nd) (l : Ln) : List (List Nat × List Nat) :=
  if l.rule = .box then [(boxRoom lg ns l.left l.main.toNat, (ndA ns l.main.toNat).parts)]
  else (addF l.rule (ndA ns l.main.toNat) l.main.toNat).map fun p => (l.left ++ p.1, (if l.rule = .ifR ∧ lg = "intuit" then [] else l.right) ++ p.2)
/-- the line is right, over what stands at its premises -/
def rightB (lg : Str) (ns : List Nd) (th : List Nat) (ls : List Ln) (l : Ln) : Bool :=
  askB lg ns th l && (l.prem.zip (roomF lg ns l)).all fun p => match ls[p.1]? with
    | some k => fitB k p.2.1 p.2.2
    | none => false
/-- the word of a node, of a rule -/
def wdN : Nd → Str
  | .no => "no" | .letter _ => "letter" | .bin o _ _ => o.str | .box _ => "box"
theorem wdN_at (n : Nd) : (n.keys.map kV)[0]? = some (.str (wdN n)) := by cases n <;> rfl
def wdR : Rl → Str
  | .andL => "and" | .orL => "or" | .ifL => "if" | .boxL => "box" | .andR => "and" | .orR => "or" | .ifR => "if" | .box => "box" | _ => ""
theorem wd_no (n : Nd) : decide (V.str (wdN n) = V.str "no") = decide (n = .no) := by
  cases n with
  | no => rfl
  | letter i => rfl
  | bin o j k => cases o <;> rfl
  | box j => rfl
theorem wd_fits (r : Rl) (n : Nd) (h : wdR r ≠ "") : decide (V.str (wdN n) = V.str (wdR r)) = fitsK r n := by
  cases r <;> first | exact absurd rfl h | skip
  all_goals cases n with
  | no => rfl
  | letter i => rfl
  | bin o j k => cases o <;> rfl
  | box j => rfl
end LL

set_option Elab.async false
set_option linter.all false
set_option maxRecDepth 100000
set_option maxHeartbeats 400000
/-! LTup: tuples cut and joined, whatever becomes of them -/
namespace LL
open PySem PySem.Spec PyProof.Rows L2
theorem pe_fldK {X : Cx} (K : PySem.W.Frag) (hK : X.K = K) {e : Expr} {f : Str} {pos : Pos} {ta : TE} (he : PE X e ta) (hb : attributeBase e f X.env (eval e X.env) = eval e X.env) : PE X (.Attribute e f pos) (tFld K ta f) := hK ▸ pe_fld he hb
theorem op_notInK {X : Cx} (K : PySem.W.Frag) (hK : X.K = K) : OpR X (compareOp .NotIn) (rIn K true) := by
  subst hK
  exact op_notIn_seq
section
variable [KW]
theorem rd_catM {K : PySem.W.Frag} {w : World} (W : KWOk K w) {M : List Addr} {H : Hp} {a b : Addr} {xs ys : List V} {Q : VK} (al : ∀ b ∈ M, H b ≠ none) (ha : Tp M H a xs) (hb : Tp M H b ys) (hl : xs.length + ys.length ≤ sizeLine) (q : ∀ r H', Tp M H' r (xs ++ ys) → Adv [] H H' → Q (.ref r) H') : rCatA K (.ref a) (.ref b) H Q := by
  refine ⟨a, b, xs, ys, rfl, rfl, ha.sq W, hb.sq W, hl, fun e => ?_, fun _ e => ?_, fun _ _ p np => ?_⟩
  · exact q b H (by rw [e, List.nil_append]; exact hb) (Adv.refl _ _)
  · exact q a H (by rw [e, List.append_nil]; exact ha) (Adv.refl _ _)
  · exact q p _ (.inl ⟨fun z => al _ z np, upd_same⟩) (Adv.new np)
theorem rd_slM {K : PySem.W.Frag} {w : World} {M : List Addr} {H : Hp} {a : Addr} {xs : List V} {lo hi : Option Int} {Q : VK} (W : KWOk K w) (al : ∀ b ∈ M, H b ≠ none) (ha : Tp M H a xs) (q : ∀ r H', Tp M H' r (cutV xs lo hi) → Adv [] H H' → Q (.ref r) H') : rSlA K (.ref a) lo hi H Q := by
  refine ⟨a, xs, rfl, ha.sq W, fun hw => ?_, fun _ p np => ?_⟩
  · have e : cutV xs lo hi = xs := by
      unfold cutV
      rw [hw.1, hw.2, List.drop_zero, Nat.sub_zero, List.take_length]
    exact q a H (by rw [e]; exact ha) (Adv.refl _ _)
  · exact q p _ (.inl ⟨fun z => al _ z np, upd_same⟩) (Adv.new np)
end
end LL

set_option Elab.async false
set_option linter.all false
set_option maxRecDepth 100000
set_option maxHeartbeats 400000
/-! LSetD: a dict {row: True, ..} used as a set of row numbers -/
namespace LL
open PySem PySem.Spec PyProof.Rows L2
/-- the dict's keys among the numbers are just the rows -/
def SetD (H : Hp) (d : Addr) (rows : List Nat) : Prop := ∃ kvs : List (Key × V), H d = some (.dK kvs) ∧ kvs.length ≤ rows.length ∧ ∀ i : Int, (valV kvs (Sum.inl i)).isSome = rows.any fun r => decide ((r : Int) = i)
section
variable {H H' : Hp} {d : Addr} {rows rows' : List Nat}
theorem SetD.get (x : SetD H d rows) (i : Int) : ∃ o, DGet H d (.int i) o ∧ o.isSome = rows.any fun r => decide ((r : Int) = i) := by
  obtain ⟨kvs, hd, _, hv⟩ := x
  exact ⟨_, DGet.k (k := Sum.inl i) hd, hv i⟩
theorem SetD.adv {M : List Addr} (x : SetD H d rows) (a : Adv M H H') (h : d ∉ M) : SetD H' d rows := by
  obtain ⟨kvs, hd, hv⟩ := x
  exact ⟨kvs, a _ _ h hd, hv⟩
theorem SetD.same (x : SetD H d rows) (a : Adv [] H H') : SetD H' d rows := x.adv a (by simp)
theorem SetD.nil (h : H d = some (.dK [])) : SetD H d [] := ⟨[], h, Nat.le_refl _, fun i => rfl⟩
theorem SetD.put {v : V} {r : Nat} (x : SetD H d rows) (hz : rows.length < sizeLine) : ∃ kvs, H d = some (.dK kvs) ∧ kvs.length < sizeLine ∧ SetD (upd H d (.dK (putK kvs (Sum.inl ((r : Nat) : Int)) v))) d (rows ++ [r]) := by
  obtain ⟨kvs, hd, hl, hv⟩ := x
  refine ⟨kvs, hd, Nat.lt_of_le_of_lt hl hz, _, upd_same, ?_, fun i => ?_⟩
  · have := length_putK kvs (Sum.inl ((r : Nat) : Int)) v
    rw [List.length_append, List.length_singleton]
    omega
  · rw [valV_put, List.any_append]
    by_cases e : (Sum.inl i : Key) = Sum.inl ((r : Nat) : Int)
    · rw [if_pos e]
      have : i = r := Sum.inl.inj e
      rw [this]
      simp
    · rw [if_neg e, hv i]
      have : decide (((r : Nat) : Int) = i) = false := decide_eq_false fun z => e (by rw [z])
      simp [this]
end
section
variable {K : PySem.W.Frag} {a D : Addr} {g : TG} {tk tv : TE} {vs : List Nat} {σ : L2.St} {H1 : Hp} {Qd : Hp → Prop}
/-- {row: True for row in rows}, rows a tuple -/
theorem dc_setT [KW] (rows : List Nat) (hD : H1 D = none) (src : SqT K H1 a (nVl rows)) (hz : rows.length ≤ 1000000)
    (hs : ∀ (i : Nat) (r : Nat) (H : Hp) (T : V → V → Hp → Prop), rows[i]? = some r → Adv [] H1 H → T (.int (r : Nat)) (.bl true) H → g (.int (r : Nat)) (wipe σ vs) H fun σ2 H2 => wipe σ2 vs = wipe σ vs ∧ tk σ2 H2 fun y H4 => tv σ2 H4 fun z H5 => T y z H5)
    (hd : ∀ H, Adv [] H1 H → SetD H D rows → Qd H) :
    ∃ W : Nat → Nat → Hp → Prop, (∃ m, W 0 m (upd H1 D (.dK []))) ∧ ∀ i m H, W i m H →
      ((Itt K a).stop i H ∧ Qd H) ∨ ((Itt K a).go i H ∧ ∃ Nx : Hp → Prop, (∀ H', Nx H' → ∃ m', m' < m ∧ W (i + 1) m' H') ∧ ∀ x H', (Itt K a).yld i H x H' → g x (wipe σ vs) H' fun σ2 H2 => wipe σ2 vs = wipe σ vs ∧ tYes σ2 H2 fun b H3 =>
        if b = true then tk σ2 H3 fun y H4 => tv σ2 H4 fun z H5 => ∃ kvs k, y = kV k ∧ H5 D = some (.dK kvs) ∧ kvs.length < sizeLine ∧ Nx (upd H5 D (.dK (putK kvs k z))) else Nx H3) := by
  have hl := nVl_len rows
  refine dc_tup (K := K) (a := a) (xs := nVl rows) (tt := tYes) (fun i H => Adv [] H1 H ∧ SetD H D (rows.take i))
    ⟨Adv.new hD, SetD.nil upd_same⟩ (fun i H _ p => SqT.adv p.1 src) (fun i x H hx p => ?_) (fun H p => ?_)
  · obtain ⟨aH, hS⟩ := p
    obtain ⟨r, hr, rfl⟩ := nVl_get hx
    have hi : i < rows.length := (List.getElem?_eq_some_iff.mp hr).1
    refine hs i r H (fun y z H5 => ∃ kvs k, y = kV k ∧ H5 D = some (.dK kvs) ∧ kvs.length < sizeLine ∧ Adv [] H1 (upd H5 D (.dK (putK kvs k z))) ∧ SetD (upd H5 D (.dK (putK kvs k z))) D (rows.take (i + 1))) hr aH ?_
    obtain ⟨kvs, hk, hz2, hS'⟩ := hS.put (v := .bl true) (r := r) (by rw [List.length_take, sizeLine_eq]; omega)
    refine ⟨kvs, Sum.inl ((r : Nat) : Int), rfl, hk, hz2, Adv.mut aH hD, ?_⟩
    rw [List.take_add_one, hr]
    exact hS'
  · obtain ⟨aH, hS⟩ := p
    refine hd H aH ?_
    rw [hl, List.take_length] at hS
    exact hS
end
end LL

set_option Elab.async false
set_option linter.all false
set_option maxRecDepth 100000
set_option maxHeartbeats 4000000
/-! LZip: for x, y in zip(tuple, list) -/
namespace LL
open PySem PySem.Spec PyProof.Rows L2
/-- the tuple at a, the list at b, their items in new pairs -/
def ItzM (K : PySem.W.Frag) (a b : Addr) : It :=
  ⟨fun i H => ∃ (xs ys : List V) (x y : V), SqT K H a xs ∧ SqL K H b ys ∧ xs[i]? = some x ∧ ys[i]? = some y,
    fun i H v H' => ∃ T x y, v = .ref T ∧ H T = none ∧ H' = upd H T (.tup [x, y]) ∧ (∀ xs, SqT K H a xs → xs[i]? = some x) ∧ ∀ ys, SqL K H b ys → ys[i]? = some y,
    fun i H => ∃ xs ys : List V, SqT K H a xs ∧ SqL K H b ys ∧ i ≤ xs.length ∧ i ≤ ys.length ∧ (i = xs.length ∨ i = ys.length)⟩
theorem turn_zipM {P : Program} {w : World} {K : PySem.W.Frag} {elts : List Expr} {kk : Nat} {tpos : Pos} {a b z TI TO i1 i2 : Addr} (D : ZipSep2 z TI TO i1 i2 [i1, a] [i2, b]) (n1 : a ≠ i1) (n2 : b ≠ i2) :
    Turn P w K (.Tuple elts kk tpos) (ItzM K a b) [z, TI, TO, i1, i2] z (fun i h => IsZip h z TI TO .none ∧ IsTupOf2 h TI (.ref i1) (.ref i2) ∧ (∃ x y, IsTupOf2 h TO x y) ∧ h.IsTupleIter i1 a i ∧ h.IsListIter i2 b i) where
  mem := by simp
  obj := fun i h st c hc => by
    obtain ⟨hz, hTI, ⟨x, y, hTO⟩, ⟨o1, e1, _, d1⟩, ⟨o2, e2, _, d2⟩⟩ := st
    have e' : c = z ∨ c = TI ∨ c = TO ∨ c = i1 ∨ c = i2 := by simpa using hc
    rcases e' with rfl | rfl | rfl | rfl | rfl
    · exact ⟨_, hz, fun v q => nomatch q⟩
    · exact ⟨_, hTI, fun v q => nomatch q⟩
    · exact ⟨_, hTO, fun v q => nomatch q⟩
    · exact ⟨o1, e1, fun v q => by rw [d1] at q; cases q⟩
    · exact ⟨o2, e2, fun v q => by rw [d2] at q; cases q⟩
  keep := fun i h h' st k => by
    obtain ⟨hz, hTI, ⟨x, y, hTO⟩, h1, h2⟩ := st
    exact ⟨k z (by simp) _ hz, k TI (by simp) _ hTI, ⟨x, y, k TO (by simp) _ hTO⟩, h1.at fun o q => k i1 (by simp) o q, h2.at fun o q => k i2 (by simp) o q⟩
  item := by
    intro X hP hw hK hc i pins s σ H E I hf st hg
    subst hP hw hK
    obtain ⟨hz, hTI, ⟨x0, y0, hTO⟩, h1, h2⟩ := st
    obtain ⟨xs, ys, x, y, hqx, hqy, hx, hy⟩ := hg
    obtain ⟨its, rv, p, _⟩ := I.tuple hqx
    obtain ⟨its2, rv2, p2, _⟩ := I.list hqy
    obtain ⟨u, hu, ru⟩ := rv.get hx
    obtain ⟨u2, hu2, ru2⟩ := rv2.get hy
    have hzl : z < s.heap.objs.size := Heap.lt_size hz
    have lt1 : i < its.toArray.size := by
      have := (List.getElem?_eq_some_iff.1 hu).1
      simpa using this
    have lt2 : i < its2.toArray.size := by
      have := (List.getElem?_eq_some_iff.1 hu2).1
      simpa using this
    have D1 := Draws.tuple (prog := X.prog) (w := X.w) (A := X.A.in1) (I.ok.hd hc) i1 a n1 its.toArray
    have D2 := Draws.list (prog := X.prog) (w := X.w) (A := X.A.in1) (I.ok.hd hc) i2 b n2 its2.toArray
    refine wpAny_pyNext_zipD2_item D D1 D2 hz hTI hTO ⟨h1, (show s.heap.IsTuple a its.toArray from p)⟩ ⟨h2, p2.isList⟩ lt1 lt2 fun x1 x2 h' tk q1 q2 z' TO' s1 s2 hT hsz hk => ?_
    have ex1 : x1 = u := by
      have q' : its[i]? = some x1 := by simpa using q1
      rw [hu] at q'
      exact (Option.some.inj q').symm
    have ex2 : x2 = u2 := by
      have q' : its2[i]? = some x2 := by simpa using q2
      rw [hu2] at q'
      exact (Option.some.inj q').symm
    subst ex1 ex2
    refine ⟨_, rfl, wpAny_letOwnedTupleGo_zip (s := { s with heap := h', toks := tk }) z' fun h'' z'' sb => ?_⟩
    have hT2 : h''.get? s.heap.objs.size = some { cls := .type "tuple", data := .seq #[x1, x2] } := (sb.2 _ (Nat.ne_of_gt hzl)).trans hT
    have new : ObjOk X.prog X.w (upd H s.heap.objs.size (.tup [x, y])) h'' s.heap.objs.size (.tup [x, y]) :=
      ⟨by show 2 ≤ sizeLine; decide, [x1, x2], .cons ru (.cons ru2 .nil), ⟨_, hT2, rfl, _, rfl⟩⟩
    have I1 : Inv X pins σ (upd H s.heap.objs.size (.tup [x, y])) { s with heap := h'', toks := tk } :=
      I.turnedNew (t' := tk) (ch := [z, TI, TO, i1, i2]) (fun c o hb q => (sb.2 c (fun q' => hb (by simp [q']))).trans (hk c o (fun q' => hb (by simp [q'])) (fun q' => hb (by simp [q'])) (fun q' => hb (by simp [q'])) (fun q' => hb (by simp [q'])) q)) hf (Nat.le_refl _) new
    refine ⟨.ref s.heap.objs.size, _, I1, rfl, ⟨_, x, y, rfl, I.hok.fresh (Nat.le_refl _), rfl, fun l hl => by rw [I.tuple_inj hl hqx]; exact hx, fun l hl => by rw [I.list_inj hl hqy]; exact hy⟩, ⟨z'', ?_, ⟨x1, x2, ?_⟩, ?_, ?_⟩, fun c hcm => ?_⟩
    · exact (sb.2 _ D.TIz).trans (hk _ _ D.TIz D.TITO D.TIi1 D.TIi2 hTI)
    · exact (sb.2 _ D.TOz).trans TO'
    · exact s1.1.at fun o q => (sb.2 _ (Ne.symm D.zi1)).trans q
    · exact s2.1.at fun o q => (sb.2 _ (Ne.symm D.zi2)).trans q
    · have hlt : c < s.heap.objs.size := by
        have e' : c = z ∨ c = TI ∨ c = TO ∨ c = i1 ∨ c = i2 := by simpa using hcm
        rcases e' with rfl | rfl | rfl | rfl | rfl
        · exact hzl
        · exact Heap.lt_size hTI
        · exact Heap.lt_size hTO
        · obtain ⟨_, e1, _⟩ := h1; exact Heap.lt_size e1
        · obtain ⟨_, e2, _⟩ := h2; exact Heap.lt_size e2
      rw [upd_ne (Nat.ne_of_lt hlt)]
      exact (hf c hcm).1
  done := by
    intro X hP hw hK hc i pins s σ H E I hf st hg
    subst hP hw hK
    obtain ⟨hz, hTI, ⟨x0, y0, hTO⟩, h1, h2⟩ := st
    obtain ⟨xs, ys, hqx, hqy, l1, l2, hend⟩ := hg
    obtain ⟨its, rv, p, _⟩ := I.tuple hqx
    obtain ⟨its2, rv2, p2, _⟩ := I.list hqy
    have e1 := rv.length
    have e2 := rv2.length
    have D1 := Draws.tuple (prog := X.prog) (w := X.w) (A := X.A.in1) (I.ok.hd hc) i1 a n1 its.toArray
    have D2 := Draws.list (prog := X.prog) (w := X.w) (A := X.A.in1) (I.ok.hd hc) i2 b n2 its2.toArray
    refine wpAny_pyNext_zipD2_end D D1 D2 hz hTI hTO ⟨h1, (show s.heap.IsTuple a its.toArray from p)⟩ ⟨h2, p2.isList⟩ (by simp; omega) (by simp; omega) (by simp; omega) fun h' tk hk => ?_
    exact ⟨rfl, I.turnedL (t' := tk) (ch := [z, TI, TO, i1, i2]) (fun c o hb q =>
      hk c o (fun q' => hb (by simp [q'])) (fun q' => hb (by simp [q'])) (fun q' => hb (by simp [q'])) (fun q' => hb (by simp [q'])) q) hf⟩
  self := fun A i s Q E st h => wpAny_pyIter_zip st.1 h
theorem sep_zip (n a b : Nat) (la : a < n) (lb : b < n) : ZipSep2 (n + 4) (n + 2) (n + 3) n (n + 1) [n, a] [n + 1, b] ∧ (b : Addr) ≠ n + 1 := by
  have ne : ∀ {x y : Nat}, x ≠ y → (x : Addr) ≠ (y : Addr) := fun h => h
  have ni : ∀ {x y z : Nat}, x ≠ y → x ≠ z → (x : Addr) ∉ ([y, z] : List Addr) := fun h1 h2 z => by
    rcases List.mem_cons.mp z with z | z
    · exact h1 z
    · exact h2 (List.mem_singleton.mp z)
  exact ⟨⟨ne (by omega), ne (by omega), ne (by omega), ne (by omega), List.mem_cons_self, ni (by omega) (by omega), ni (by omega) (by omega), ne (by omega), List.mem_cons_self, ni (by omega) (by omega), ni (by omega) (by omega), ni (by omega) (by omega), ni (by omega) (by omega)⟩, ne (by omega)⟩
def iZipM (K : PySem.W.Frag) (ta : TA) : TI := fun σ H R => ta σ H fun vs H1 => ∃ a b xs ys, vs = [.ref a, .ref b] ∧ SqT K H1 a xs ∧ SqL K H1 b ys ∧ R (ItzM K a b) H1
theorem pi_zipM {X : Cx} {e e2 : Expr} {ta : TA} {p pos tpos : Pos} {elts : List Expr} {kk : Nat} (hg : Gl X "zip") (hm : X.mg "zip" = none) (ha : PA X [e, e2] ta)
    (hs : starEach [e, e2] X.env = (false, eval e X.env) :: starEach [e2] X.env := by rfl) (hpl : (backTo pos (starEach [e2] X.env)).any (·.1) = false := by rfl) :
    PI X (.Tuple elts kk tpos) (.Call (.Name "zip" p) [e, e2] [] pos) (iZipM X.K ta) := by
  refine ⟨fun pins s σ H R I h => ?_⟩
  refine Call_ (ld_blt I hg hm PyProof.Rows.boot_zip (PyProof.Rows.callWith_type1 (thn (ha.run pos pins s σ H _ I h) fun us s1 ⟨vs, H1, I1, r1, q1⟩ => ?_) hs hpl))
  obtain ⟨a, b, xs, ys, ex, hqx, hqy, q⟩ := q1
  subst ex
  cases r1 with
  | cons r rr =>
    cases rr with
    | cons r' rr =>
      cases rr
      cases r
      cases r'
      have fresh5 : ∀ c, c ∈ [s1.heap.objs.size + 4, s1.heap.objs.size + 2, s1.heap.objs.size + 3, s1.heap.objs.size, s1.heap.objs.size + 1] → FpOk X pins H1 c := fun c hcm => by
        have hle : s1.heap.objs.size ≤ c := by
          simp only [List.mem_cons, List.not_mem_nil, or_false] at hcm
          rcases hcm with rfl | rfl | rfl | rfl | rfl
          · exact Nat.le_add_right _ _
          · exact Nat.le_add_right _ _
          · exact Nat.le_add_right _ _
          · exact Nat.le_refl _
          · exact Nat.le_add_right _ _
        exact I1.fpOk hle (I1.hok.fresh hle)
      obtain ⟨its, rv, p1, _⟩ := I1.tuple hqx
      obtain ⟨its2, rv2, p2, _⟩ := I1.list hqy
      obtain ⟨o1, ho1, _⟩ := id p1
      have la : a < s1.heap.objs.size := Heap.lt_size ho1
      have lb : b < s1.heap.objs.size := p2.lt
      refine zip_begins2 (begins_tuple a its.toArray) (begins_list b its2.toArray) (show s1.heap.IsTuple a its.toArray from p1) p2.isList fun h' hz hTI hTO g1 g2 hsz hk => wpAny_pyIter_zip hz ?_
      have I2 : Inv X pins σ H1 { s1 with heap := h' } := I1.kept (t' := s1.toks) hk
      have ap := sep_zip s1.heap.objs.size a b la lb
      exact ⟨s1.heap.objs.size + 4, [s1.heap.objs.size + 4, s1.heap.objs.size + 2, s1.heap.objs.size + 3, s1.heap.objs.size, s1.heap.objs.size + 1], _, _, H1, rfl, I2, turn_zipM ap.1 (Nat.ne_of_lt la) ap.2, ⟨hz, hTI, ⟨_, _, hTO⟩, ⟨_, g1, rfl, rfl⟩, ⟨_, g2, rfl, rfl⟩⟩, fresh5, q⟩
section
variable [KW] {K : PySem.W.Frag} {a b D : Addr} {xs zs : List V} {g : TG} {te : TE} {vs : List Nat} {σ : L2.St} {H1 : Hp} {Qd : Hp → Prop}
/-- [.. for x, y in zip(tuple, list)], both of one length -/
theorem lc_zipM (f : Nat → V) (hD : H1 D = none) (sa : SqT K H1 a xs) (sb : SqL K H1 b zs) (hl : xs.length = zs.length) (hz : xs.length ≤ 1000000)
    (hs : ∀ (i : Nat) (x y : V) (T : Addr) (H : Hp) (acc : List V) (R : V → Hp → Prop), xs[i]? = some x → zs[i]? = some y → Adv [] H1 H → H T = some (.tup [x, y]) → H D = some (.lst acc) → (∀ H4, H4 D = some (.lst acc) → Adv [] H1 H4 → R (f i) H4) → g (.ref T) (wipe σ vs) H fun σ2 H2 => wipe σ2 vs = wipe σ vs ∧ te σ2 H2 R)
    (hd : ∀ H, Adv [] H1 H → H D = some (.lst ((List.range xs.length).map f)) → Qd H) :
    ∃ W : Nat → Nat → Hp → Prop, (∃ m, W 0 m (upd H1 D (.lst []))) ∧ ∀ i m H, W i m H →
      ((ItzM K a b).stop i H ∧ Qd H) ∨ ((ItzM K a b).go i H ∧ ∃ Nx : Hp → Prop, (∀ H', Nx H' → ∃ m', m' < m ∧ W (i + 1) m' H') ∧ ∀ x H', (ItzM K a b).yld i H x H' → g x (wipe σ vs) H' fun σ2 H2 => wipe σ2 vs = wipe σ vs ∧ tYes σ2 H2 fun b H3 =>
        if b = true then te σ2 H3 fun y H4 => ∃ acc, H4 D = some (.lst acc) ∧ acc.length < sizeLine ∧ Nx (upd H4 D (.lst (acc ++ [y]))) else Nx H3) := by
  refine ⟨fun i m H => m = xs.length - i ∧ i ≤ xs.length ∧ Adv [] H1 H ∧ H D = some (.lst ((List.range i).map f)), ⟨xs.length, by simp, Nat.zero_le _, Adv.new hD, upd_same⟩, ?_⟩
  rintro i m H ⟨rfl, hi, aH, hH⟩
  by_cases hlt : i < xs.length
  · refine .inr ⟨⟨xs, zs, xs[i], zs[i], SqT.adv aH sa, SqL.adv aH sb, by simp [hlt], by simp [← hl, hlt]⟩, fun H' => Adv [] H1 H' ∧ H' D = some (.lst ((List.range (i + 1)).map f)), fun H' p => ⟨xs.length - (i + 1), by omega, rfl, hlt, p.1, p.2⟩, fun v H' y => ?_⟩
    obtain ⟨T, x, z, rfl, nT, rfl, hx, hzs⟩ := y
    have DT : D ≠ T := fun e => by rw [← e, hH] at nT; cases nT
    have aT : Adv [] H1 (upd H T (.tup [x, z])) := aH.trans (Adv.new nT)
    refine hs i x z T _ _ (fun y H4 => ∃ acc, H4 D = some (.lst acc) ∧ acc.length < sizeLine ∧ (Adv [] H1 (upd H4 D (.lst (acc ++ [y]))) ∧ (upd H4 D (.lst (acc ++ [y]))) D = some (.lst ((List.range (i + 1)).map f)))) (hx _ (SqT.adv aH sa)) (hzs _ (SqL.adv aH sb)) aT upd_same (by rw [upd_ne DT]; exact hH) (fun H4 e4 a4 => ⟨_, e4, ?_, Adv.mut a4 hD, ?_⟩)
    · rw [List.length_map, List.length_range, sizeLine_eq]
      omega
    · rw [upd_same, range_map_succ]
  · have e : i = xs.length := by omega
    subst e
    exact .inl ⟨⟨xs, zs, SqT.adv aH sa, SqL.adv aH sb, Nat.le_refl _, by omega, .inl rfl⟩, hd H aH hH⟩
end
end LL

set_option Elab.async false
set_option linter.all false
set_option maxRecDepth 100000
set_option maxHeartbeats 400000
/-! LDsp: {t: v}, a display of one entry whose key is a tuple -/
namespace LL
open PySem PySem.Spec PyProof.Rows L2
variable [KW]
def tDisp1X (K : PySem.W.Frag) (tk tv : TE) : TE := fun σ H Q => ∀ p, H p = none → tk σ (upd H p (dxo p [])) fun y H1 => tv σ H1 fun v H2 => H2 p = some (dxo p []) ∧ ∃ (k : List Key) (b : Addr), y = .ref b ∧ SqT K H2 b (k.map kV) ∧ Q (.ref p) (upd H2 p (dxo p (putX [] k b v)))
section
variable {X : Cx} {k v : Expr} {pos : Pos} {tk tv : TE}
theorem pe_disp1X (W : KWOk X.K X.w) (hu : X.A.units < cLine) (hk : PE X k tk) (hv : PE X v tv) : PE X (.Dict [some k] [v] pos) (tDisp1X X.K tk tv) := by
  refine ⟨fun pins s σ H Q I q => ?_⟩
  have hn := I.hok.fresh (Nat.le_refl s.heap.objs.size)
  have I1 := I.laid (a := s.heap.objs.size) (o := dxo s.heap.objs.size []) (h' := s.heap.push { cls := .type "dict", data := .dict #[] }) (t' := s.toks) (fun _ _ q => Heap.get?_push_of_some _ q) (Nat.le_refl _)
    (dx_new (xs := []) (fun ks => W.hs X.prog ks) (beq_eq_false_iff_ne.mpr (Ne.symm (Nat.ne_of_lt I.big))) (Nat.zero_le _) .nil ⟨_, #[], 0, Heap.get?_push_size _ rfl, ⟨rfl, rfl, rfl⟩, rfl, rfl, (fun x hx => nomatch hx), List.nodup_nil⟩)
  refine wpAny_Dict_any rfl rfl (by simp) (by simp) (pairTrees_cons_walk (thn (hk.run pins _ σ _ _ I1 (q _ hn)) fun u s1 ⟨y, H1, I1, ry, q1⟩ => thn (hv.run pins s1 σ H1 _ I1 q1) fun r s2 ⟨vv, H2, I2, rv, e, ks, b, ey, eb, q2⟩ => pairTrees_nil_walk ?_))
  subst ey
  obtain rfl : u = Value.ref b := ry
  unfold storeAll
  rw [List.forIn_cons]
  obtain ⟨hd, z, xs, rel, dd⟩ := dx_of W I2 e (fun p hp => nomatch hp)
  have hx0 : xs = [] := by cases rel; rfl
  subst hx0
  have hl : (putX [] ks b vv).length ≤ sizeLine := by have := putX_len [] ks b vv; rw [sizeLine_eq]; simp at this; omega
  refine wpAny_bind (wpAny_bind (wpAny_dictSet_heap (hsz := Nat.zero_le _) (knd := tupleKind (mixKind X.prog X.w)) hu (key_sq I2 eb) dd fun h' dd' hs => wpAny_pure ?_))
  dsimp only
  rw [List.forIn_nil]
  refine wpAny_pure ?_
  have he : ∃ q, h'.get? s.heap.objs.size = some q := let ⟨q, _, _, hq, _⟩ := dd'; ⟨q, hq⟩
  exact ⟨.ref s.heap.objs.size, _, d_write I2 (by rw [e]; exact True.intro) hs he (dx_new (fun ks => W.hs X.prog ks) hd hl (dx_put rel ks b rv) dd'), rfl, q2⟩
end
end LL

set_option Elab.async false
set_option linter.all false
set_option maxRecDepth 100000
set_option maxHeartbeats 4000000
/-! LTmu: tuple * 0, tuple * 1 -/
namespace LL
open PySem PySem.Spec PyProof.Rows L2
theorem tuple_mul0 (l : Addr) (items : Array Value) (n : Nat) (dd : Option Addr) (sl : Array (Option Value)) (u : Tok) (c1 : items.isEmpty = false) :
    Meets (Builtin.«tuple.__mul__» ⟨[.ref l, .int 0 u], []⟩) (fun _ R s => s.heap.get? l = some { cls := .type "tuple", dict := dd, data := .seq items n, slots := sl } ∧
      R (.ok (.ret (Value.ref s.heap.objs.size))) { s with heap := s.heap.push { cls := Value.type "tuple", data := Data.seq #[] }, toks := s.toks }) :=
  .of_wp fun prog w A R s h => by
    obtain ⟨hp, g, d, tk, os⟩ := s
    obtain ⟨hl, h⟩ := h
    have f1 := AutoSeq1.idx_int
    wp_walk using wpAny_loadPart' hl
    repeat (first
      | (refine wpAny_ite_false (decide_eq_false (by rw [c1]; decide)) ?_; wp_walk using wpAny_loadPart' hl)
      | (refine wpAny_ite_true (decide_eq_true (by rw [c1]; decide)) ?_; wp_walk using wpAny_loadPart' hl)
      | (refine wpAny_ite_false (decide_eq_false (by decide)) ?_; wp_walk using wpAny_loadPart' hl)
      | (refine wpAny_ite_true (decide_eq_true (by decide)) ?_; wp_walk using wpAny_loadPart' hl))
    exact ⟨_, rfl, h⟩
theorem tuple_mul1 (l : Addr) (items : Array Value) (n : Nat) (dd : Option Addr) (sl : Array (Option Value)) (u : Tok) :
    Meets (Builtin.«tuple.__mul__» ⟨[.ref l, .int 1 u], []⟩) (fun _ R s => s.heap.get? l = some { cls := .type "tuple", dict := dd, data := .seq items n, slots := sl } ∧
      R (.ok (.ret (Value.ref l))) s) :=
  .of_wp fun prog w A R s h => by
    obtain ⟨hp, g, d, tk, os⟩ := s
    obtain ⟨hl, h⟩ := h
    have f1 := AutoSeq1.idx_int
    wp_walk using wpAny_loadPart' hl
    repeat (first
      | (refine wpAny_ite_true (decide_eq_true (by rw [Bool.or_comm]; rfl)) ?_; wp_walk using wpAny_loadPart' hl)
      | (refine wpAny_ite_true (decide_eq_true (by decide)) ?_; wp_walk using wpAny_loadPart' hl)
      | (refine wpAny_ite_false (decide_eq_false (by decide)) ?_; wp_walk using wpAny_loadPart' hl))
    exact ⟨_, rfl, h⟩
def rRepA (K : PySem.W.Frag) : R2 := fun x y H Q => ∃ (l : Addr) (k : Nat) (xs : List V), x = .ref l ∧ y = .int (k : Nat) ∧ SqT K H l xs ∧ xs ≠ [] ∧ k ≤ 1000 ∧ xs.length ≤ 1000 ∧ (k = 1 → Q (.ref l) H) ∧ (k ≠ 1 → ∀ p, H p = none → Q (.ref p) (upd H p (.tup (List.replicate k xs).flatten)))
section
variable {X : Cx}
theorem op_repA : OpR X (binaryOp .Mult) (rRepA X.K) := by
  intro pins s σ H x y v u Q I rx ry h
  obtain ⟨l, k, xs, rfl, rfl, hT, hne, h2, hz, q1, q2⟩ := h
  by_cases k2 : 2 ≤ k
  · exact op_repT pins s σ H _ _ v u Q I rx ry ⟨l, (k : Nat), xs, rfl, rfl, hT, hne, by omega, by omega, hz, q2 (by omega)⟩
  cases rx
  obtain ⟨t, rfl⟩ := ry
  obtain ⟨its, r, ⟨⟨cls, dd, data, sl⟩, ho, hc, n, hd⟩, hs⟩ := I.tuple hT
  simp only at hc hd
  subst hc hd
  have hle : its.length = xs.length := r.length.symm
  have hn : its ≠ [] := fun e => hne (by
    rw [e] at hle
    exact List.eq_nil_of_length_eq_zero hle.symm)
  have hi : its.toArray.isEmpty = false := by
    cases its with
    | nil => exact absurd rfl hn
    | cons a b => rfl
  obtain rfl | rfl : k = 0 ∨ k = 1 := by omega
  · refine wpAny_binaryOp_repeat_ref (T := "tuple") (U := "int") (by decide) ⟨_, ho, rfl⟩ (fun s' => typeIs_int s' _ t) noFill_tuple_mul F.fills_int_mul F.slot_int_rmul repeat_tuple F.slot_int_index.lookup
      (call_meets F.slot_int_rmul (typeIs_int s _ t) F.entry_int_rmul (F.args_int_rmul_2 _ _) (int_rmul_tuple _ t l its.toArray n dd sl)
        ⟨ho, rfl, ⟨_, ho, rfl⟩, call_meets F.slot_tuple_mul ⟨_, ho, rfl⟩ F.entry_tuple_mul (F.args_tuple_mul_2 _ _) (tuple_mul0 l its.toArray n dd sl t hi) ⟨ho, ?_⟩⟩)
    refine ⟨.ref s.heap.objs.size, _, I.laid (t' := s.toks) (o := .tup []) (fun b ob q => Heap.get?_push_of_some _ q) (Nat.le_refl _) ?_, rfl, q2 (by decide) _ (I.hok.fresh (Nat.le_refl _))⟩
    exact ⟨by show 0 ≤ sizeLine; exact Nat.zero_le _, [], .nil, IsTup.new _ _⟩
  · refine wpAny_binaryOp_repeat_ref (T := "tuple") (U := "int") (by decide) ⟨_, ho, rfl⟩ (fun s' => typeIs_int s' _ t) noFill_tuple_mul F.fills_int_mul F.slot_int_rmul repeat_tuple F.slot_int_index.lookup
      (call_meets F.slot_int_rmul (typeIs_int s _ t) F.entry_int_rmul (F.args_int_rmul_2 _ _) (int_rmul_tuple _ t l its.toArray n dd sl)
        ⟨ho, rfl, ⟨_, ho, rfl⟩, call_meets F.slot_tuple_mul ⟨_, ho, rfl⟩ F.entry_tuple_mul (F.args_tuple_mul_2 _ _) (tuple_mul1 l its.toArray n dd sl t) ⟨ho, ?_⟩⟩)
    exact ⟨.ref l, H, I, rfl, q1 rfl⟩
end
end LL

set_option Elab.async false
set_option linter.all false
set_option maxRecDepth 100000
set_option maxHeartbeats 4000000
namespace K12
open PySem PySem.Spec PyProof.Rows L2 LL
theorem sc_is_integer : FnScope ["value"] ["value"] (defScope s_is_integer) := ⟨rfl, rfl, rfl, by decide +kernel, rfl, by decide +kernel, by decide +kernel⟩
theorem sc_is_between : FnScope ["value", "low", "high"] ["value", "low", "high"] (defScope s_is_between) := ⟨rfl, rfl, rfl, by decide +kernel, rfl, by decide +kernel, by decide +kernel⟩
theorem sc_is_tuple_of : FnScope ["value", "many"] ["value", "many"] (defScope s_is_tuple_of) := ⟨rfl, rfl, rfl, by decide +kernel, rfl, by decide +kernel, by decide +kernel⟩
theorem sc_are_any_rows : FnScope ["value", "count", "item"] ["value", "count"] (defScope s_are_any_rows) := ⟨rfl, rfl, rfl, by decide +kernel, rfl, by decide +kernel, by decide +kernel⟩
theorem sc_is_rising : FnScope ["values", "k"] ["values"] (defScope s_is_rising) := ⟨rfl, rfl, rfl, by decide +kernel, rfl, by decide +kernel, by decide +kernel⟩
theorem sc_are_rows : FnScope ["value", "count"] ["value", "count"] (defScope s_are_rows) := ⟨rfl, rfl, rfl, by decide +kernel, rfl, by decide +kernel, by decide +kernel⟩
theorem sc_check_logic : FnScope ["logic"] ["logic"] (defScope s_check_logic) := ⟨rfl, rfl, rfl, by decide +kernel, rfl, by decide +kernel, by decide +kernel⟩
theorem sc_is_boxed : FnScope ["logic"] ["logic"] (defScope s_is_boxed) := ⟨rfl, rfl, rfl, by decide +kernel, rfl, by decide +kernel, by decide +kernel⟩
theorem sc_is_node : FnScope ["value", "row", "boxed", "word", "part"] ["value", "row", "boxed"] (defScope s_is_node) := ⟨rfl, rfl, rfl, by decide +kernel, rfl, by decide +kernel, by decide +kernel⟩
theorem sc_wrong_row : FnScope ["value", "most", "boxed", "seen", "row", "node"] ["value", "most", "boxed"] (defScope s_wrong_row) := ⟨rfl, rfl, rfl, by decide +kernel, rfl, by decide +kernel, by decide +kernel⟩
theorem sc_check_rows_of : FnScope ["sheet", "most", "boxed", "row"] ["sheet", "most", "boxed"] (defScope s_check_rows_of) := ⟨rfl, rfl, rfl, by decide +kernel, rfl, by decide +kernel, by decide +kernel⟩
theorem sc_check_claim_to : FnScope ["logic", "claim", "most", "sheet", "theory", "left", "right"] ["logic", "claim", "most"] (defScope s_check_claim_to) := ⟨rfl, rfl, rfl, by decide +kernel, rfl, by decide +kernel, by decide +kernel⟩
theorem sc_check_any_claim : FnScope ["logic", "claim"] ["logic", "claim"] (defScope s_check_any_claim) := ⟨rfl, rfl, rfl, by decide +kernel, rfl, by decide +kernel, by decide +kernel⟩
theorem sc_is_line : FnScope ["value", "rows", "at", "rule", "premises", "main", "premise"] ["value", "rows", "at"] (defScope s_is_line) := ⟨rfl, rfl, rfl, by decide +kernel, rfl, by decide +kernel, by decide +kernel⟩
theorem sc_added : FnScope ["sheet", "rule", "main", "parts"] ["sheet", "rule", "main"] (defScope s_added) := ⟨rfl, rfl, rfl, by decide +kernel, rfl, by decide +kernel, by decide +kernel⟩
theorem sc_keeps_right : FnScope ["logic", "rule"] ["logic", "rule"] (defScope s_keeps_right) := ⟨rfl, rfl, rfl, by decide +kernel, rfl, by decide +kernel, by decide +kernel⟩
theorem sc_fits : FnScope ["premise", "room", "row"] ["premise", "room"] (defScope s_fits) := ⟨rfl, rfl, rfl, by decide +kernel, rfl, by decide +kernel, by decide +kernel⟩
theorem sc_begins : FnScope ["sheet", "start"] ["sheet", "start"] (defScope s_begins) := ⟨rfl, rfl, rfl, by decide +kernel, rfl, by decide +kernel, by decide +kernel⟩
theorem sc_is_outside : FnScope ["logic", "claim", "paper", "sheet", "lines"] ["logic", "claim", "paper"] (defScope s_is_outside) := ⟨rfl, rfl, rfl, by decide +kernel, rfl, by decide +kernel, by decide +kernel⟩
theorem sc_is_last : FnScope ["claim", "lines"] ["claim", "lines"] (defScope s_is_last) := ⟨rfl, rfl, rfl, by decide +kernel, rfl, by decide +kernel, by decide +kernel⟩
theorem sc_wrong_place : FnScope ["logic", "claim", "paper", "cuts", "sheet", "lines", "rules", "at", "line"] ["logic", "claim", "paper", "cuts"] (defScope s_wrong_place) := ⟨rfl, rfl, rfl, by decide +kernel, rfl, by decide +kernel, by decide +kernel⟩
theorem sc_wrong_line : FnScope ["logic", "claim", "paper", "cuts"] ["logic", "claim", "paper", "cuts"] (defScope s_wrong_line) := ⟨rfl, rfl, rfl, by decide +kernel, rfl, by decide +kernel, by decide +kernel⟩
theorem sc_is_derivation : FnScope ["logic", "claim", "paper", "cuts"] ["logic", "claim", "paper", "cuts"] (defScope s_is_derivation) := ⟨rfl, rfl, rfl, by decide +kernel, rfl, by decide +kernel, by decide +kernel⟩
theorem sc_law_stream : FnScope ["script"] ["script"] (defScope s_law_stream) := ⟨rfl, rfl, rfl, by decide +kernel, rfl, by decide +kernel, by decide +kernel⟩
theorem sc_law_next : FnScope ["stream", "many", "k", "cell", "digit"] ["stream", "many"] (defScope s_law_next) := ⟨rfl, rfl, rfl, by decide +kernel, rfl, by decide +kernel, by decide +kernel⟩
theorem sc_law_pick : FnScope ["stream", "rows"] ["stream", "rows"] (defScope s_law_pick) := ⟨rfl, rfl, rfl, by decide +kernel, rfl, by decide +kernel, by decide +kernel⟩
theorem sc_law_from : FnScope ["stream", "low", "high"] ["stream", "low", "high"] (defScope s_law_from) := ⟨rfl, rfl, rfl, by decide +kernel, rfl, by decide +kernel, by decide +kernel⟩
theorem sc_law_some : FnScope ["stream", "rows", "share", "row"] ["stream", "rows", "share"] (defScope s_law_some) := ⟨rfl, rfl, rfl, by decide +kernel, rfl, by decide +kernel, by decide +kernel⟩
theorem sc_law_shuffled : FnScope ["stream", "rows", "left", "found", "turn"] ["stream", "rows"] (defScope s_law_shuffled) := ⟨rfl, rfl, rfl, by decide +kernel, rfl, by decide +kernel, by decide +kernel⟩
theorem sc_law_same : FnScope ["actual", "due", "left", "turn", "one", "other", "at", "key"] ["actual", "due"] (defScope s_law_same) := ⟨rfl, rfl, rfl, by decide +kernel, rfl, by decide +kernel, by decide +kernel⟩
theorem sc_law_copy : FnScope ["value", "found", "key", "item"] ["value"] (defScope s_law_copy) := ⟨rfl, rfl, rfl, by decide +kernel, rfl, by decide +kernel, by decide +kernel⟩
theorem sc_law_row : FnScope ["book", "node"] ["book", "node"] (defScope s_law_row) := ⟨rfl, rfl, rfl, by decide +kernel, rfl, by decide +kernel, by decide +kernel⟩
theorem sc_law_parts : FnScope ["node"] ["node"] (defScope s_law_parts) := ⟨rfl, rfl, rfl, by decide +kernel, rfl, by decide +kernel, by decide +kernel⟩
theorem sc_law_leaf : FnScope ["stream", "book", "letters"] ["stream", "book", "letters"] (defScope s_law_leaf) := ⟨rfl, rfl, rfl, by decide +kernel, rfl, by decide +kernel, by decide +kernel⟩
theorem sc_law_tree : FnScope ["stream", "book", "letters", "many", "boxed", "first", "j", "k"] ["stream", "book", "letters", "many", "boxed"] (defScope s_law_tree) := ⟨rfl, rfl, rfl, by decide +kernel, rfl, by decide +kernel, by decide +kernel⟩
theorem sc_law_is_boxed : FnScope ["logic"] ["logic"] (defScope s_law_is_boxed) := ⟨rfl, rfl, rfl, by decide +kernel, rfl, by decide +kernel, by decide +kernel⟩
theorem sc_law_told : FnScope ["logic", "sheet", "theory", "line", "left", "right", "rule", "premises", "main", "node", "boxes", "inner", "row"] ["logic", "sheet", "theory", "line"] (defScope s_law_told) := ⟨rfl, rfl, rfl, by decide +kernel, rfl, by decide +kernel, by decide +kernel⟩
theorem sc_law_is_right : FnScope ["logic", "sheet", "theory", "lines", "at", "cuts", "line", "told", "k", "left", "right", "row"] ["logic", "sheet", "theory", "lines", "at", "cuts"] (defScope s_law_is_right) := ⟨rfl, rfl, rfl, by decide +kernel, rfl, by decide +kernel, by decide +kernel⟩
theorem sc_law_logic : FnScope ["stream"] ["stream"] (defScope s_law_logic) := ⟨rfl, rfl, rfl, by decide +kernel, rfl, by decide +kernel, by decide +kernel⟩
theorem sc_law_words : FnScope [] [] (defScope s_law_words) := ⟨rfl, rfl, rfl, by decide +kernel, rfl, by decide +kernel, by decide +kernel⟩
theorem sc_law_sheet : FnScope ["stream", "logic", "rule", "book", "boxed", "k", "rows", "word", "main"] ["stream", "logic", "rule"] (defScope s_law_sheet) := ⟨rfl, rfl, rfl, by decide +kernel, rfl, by decide +kernel, by decide +kernel⟩
theorem sc_law_sides : FnScope ["stream", "rows", "share", "sure"] ["stream", "rows", "share", "sure"] (defScope s_law_sides) := ⟨rfl, rfl, rfl, by decide +kernel, rfl, by decide +kernel, by decide +kernel⟩
theorem sc_law_single : FnScope ["stream", "logic", "rule", "sheet", "main", "rows", "boxed", "theory", "sure", "left", "right", "have", "told", "lines", "near", "row", "k", "one", "two", "more", "at", "premises"] ["stream", "logic", "rule"] (defScope s_law_single) := ⟨rfl, rfl, rfl, by decide +kernel, rfl, by decide +kernel, by decide +kernel⟩
theorem sc_law : FnScope ["script", "stream", "logic", "rules", "rule", "claim", "paper", "one", "told", "cuts", "due"] ["script"] (defScope s_law) := ⟨rfl, rfl, rfl, by decide +kernel, rfl, by decide +kernel, by decide +kernel⟩
/-- the built-ins that the text does not name anew -/
structure Txt (K : PySem.W.Frag) (mg : Str → Option Value) : Prop where
  ValueError : mg "ValueError" = none
  abs : mg "abs" = none
  all : mg "all" = none
  any : mg "any" = none
  bool : mg "bool" = none
  dict : mg "dict" = none
  enumerate : mg "enumerate" = none
  int : mg "int" = none
  isinstance : mg "isinstance" = none
  len : mg "len" = none
  list : mg "list" = none
  range : mg "range" = none
  set : mg "set" = none
  sorted : mg "sorted" = none
  str : mg "str" = none
  tuple : mg "tuple" = none
  zip : mg "zip" = none
variable [KW]
/-- the constants of the top -/
structure Con (K : PySem.W.Frag) (mg : Str → Option Value) (w : World) : Prop where
  items : ∃ (a : Addr) (es : Array DictEntry) (n : Nat), mg "ITEMS" = some (.ref a) ∧ KDict K w a es n ∧ ∀ z : Str, ∃ r, PySem.W.nsIn K a z = some r ∧ RelV (match nItems z with | some k => V.int (k : Nat) | none => V.non) (r.getD .none)
  last : ∃ t, mg "LAST_LETTER" = some (.int 7 t)
  mostP : ∃ t, mg "MOST_PAPER_ROWS" = some (.int 5000 t)
  logics : ∃ a, mg "LOGICS" = some (.ref a) ∧ ∀ H, SqT K H a [.str "classical", .str "intuit", .str "k", .str "s4", .str "gl"]
  modal : ∃ a, mg "MODAL" = some (.ref a) ∧ ∀ H, SqT K H a [.str "k", .str "s4", .str "gl"]
  counts : KTabI K mg w "COUNTS" cntL
  lefts : KTabS K mg w "LEFT_WORDS" lftL
  rights : KTabS K mg w "RIGHT_WORDS" rgtL
structure All (K : PySem.W.Frag) (mg : Str → Option Value) (w : World) where
  T : Txt K mg
  C : Con K mg w
  W : KWOk K w
  is_integer : Df K mg "is_integer" s_is_integer ["value"]
  is_between : Df K mg "is_between" s_is_between ["value", "low", "high"]
  is_tuple_of : Df K mg "is_tuple_of" s_is_tuple_of ["value", "many"]
  are_any_rows : Df K mg "are_any_rows" s_are_any_rows ["value", "count"]
  is_rising : Df K mg "is_rising" s_is_rising ["values"]
  are_rows : Df K mg "are_rows" s_are_rows ["value", "count"]
  check_logic : Df K mg "check_logic" s_check_logic ["logic"]
  is_boxed : Df K mg "is_boxed" s_is_boxed ["logic"]
  is_node : Df K mg "is_node" s_is_node ["value", "row", "boxed"]
  wrong_row : Df K mg "wrong_row" s_wrong_row ["value", "most", "boxed"]
  check_rows_of : Df K mg "check_rows_of" s_check_rows_of ["sheet", "most", "boxed"]
  check_claim_to : Df K mg "check_claim_to" s_check_claim_to ["logic", "claim", "most"]
  check_any_claim : Df K mg "check_any_claim" s_check_any_claim ["logic", "claim"]
  is_line : Df K mg "is_line" s_is_line ["value", "rows", "at"]
  added : Df K mg "added" s_added ["sheet", "rule", "main"]
  keeps_right : Df K mg "keeps_right" s_keeps_right ["logic", "rule"]
  fits : Df K mg "fits" s_fits ["premise", "room"]
  begins : Df K mg "begins" s_begins ["sheet", "start"]
  is_outside : Df K mg "is_outside" s_is_outside ["logic", "claim", "paper"]
  is_last : Df K mg "is_last" s_is_last ["claim", "lines"]
  wrong_place : Df K mg "wrong_place" s_wrong_place ["logic", "claim", "paper", "cuts"]
  wrong_line : Df K mg "wrong_line" s_wrong_line ["logic", "claim", "paper", "cuts"]
  is_derivation : Df K mg "is_derivation" s_is_derivation ["logic", "claim", "paper", "cuts"]
  law_stream : Df K mg "_law_stream" s_law_stream ["script"]
  law_next : Df K mg "_law_next" s_law_next ["stream", "many"]
  law_pick : Df K mg "_law_pick" s_law_pick ["stream", "rows"]
  law_from : Df K mg "_law_from" s_law_from ["stream", "low", "high"]
  law_some : Df K mg "_law_some" s_law_some ["stream", "rows", "share"]
  law_shuffled : Df K mg "_law_shuffled" s_law_shuffled ["stream", "rows"]
  law_same : Df K mg "_law_same" s_law_same ["actual", "due"]
  law_copy : Df K mg "_law_copy" s_law_copy ["value"]
  law_row : Df K mg "_law_row" s_law_row ["book", "node"]
  law_parts : Df K mg "_law_parts" s_law_parts ["node"]
  law_leaf : Df K mg "_law_leaf" s_law_leaf ["stream", "book", "letters"]
  law_tree : Df K mg "_law_tree" s_law_tree ["stream", "book", "letters", "many", "boxed"]
  law_is_boxed : Df K mg "_law_is_boxed" s_law_is_boxed ["logic"]
  law_told : Df K mg "_law_told" s_law_told ["logic", "sheet", "theory", "line"]
  law_is_right : Df K mg "_law_is_right" s_law_is_right ["logic", "sheet", "theory", "lines", "at", "cuts"]
  law_logic : Df K mg "_law_logic" s_law_logic ["stream"]
  law_words : Df K mg "_law_words" s_law_words []
  law_sheet : Df K mg "_law_sheet" s_law_sheet ["stream", "logic", "rule"]
  law_sides : Df K mg "_law_sides" s_law_sides ["stream", "rows", "share", "sure"]
  law_single : Df K mg "_law_single" s_law_single ["stream", "logic", "rule"]
  law : Df K mg "law" s_law ["script"]

set_option Elab.async false
set_option linter.all false
set_option maxRecDepth 100000
set_option maxHeartbeats 4000000
open PySem PySem.Spec PyProof.Rows L2 LL
open C8 (pss_cut)
section
variable [KW]
variable {P : Program} {w : World} {K : PySem.W.Frag} {mg : Str → Option Value} {base : Heap}
/-! ### _law_stream -/
def spStream (K : PySem.W.Frag) : Sp := fun vs H Q _ => ∃ (a : Addr) (ns : List Int), vs = [.ref a] ∧ SqL K H a (ns.map V.int) ∧ ns.length ≤ 63 ∧
  ∀ s H', H s = none → StrAt [] H' s → Adv [] H H' → Q (.ref s) H'
theorem ok_law_stream (A : All K mg w) : FnOk P w K mg base CX0 1 A.law_stream.f A.law_stream.fd ["script"] (spStream K) := by
  refine A.law_stream.F.ok sc_law_stream (fun vs H Q E h => ?_) (fun cdv Ar outer s H vs Q E hr h => ?_)
  · obtain ⟨a, ns, rfl, _⟩ := h
    rfl
  · obtain ⟨a, ns, rfl, hS, hl, q⟩ := h
    refine ⟨_, pss_one (ps_ret (pe_lst (pa_cons (pe_callTy call_list_of (by rfl) A.T.list (by decide +kernel) (pa_cons (pv 0) pa_nil)) (pa_cons pe_int (pa_cons pe_int pa_nil))))), ?_⟩
    refine ⟨_, rfl, a, _, rfl, .inl hS, fun l nl => ?_⟩
    refine ⟨by show 3 ≤ sizeLine; decide, fun p np => ?_⟩
    have npl : l ≠ p := fun z => by rw [← z, upd_same] at np; cases np
    have np0 : H p = none := by rw [upd_ne npl.symm] at np; exact np
    refine q p _ np0 ⟨l, ns, 0, 0, upd_same, by rw [upd_ne npl, upd_same], Int.le_refl _, Int.le_refl _, by simp⟩ ?_
    exact Adv.trans (Adv.new nl) (Adv.new np)
/-! ### _law_next -/
def spNext : Sp := fun vs H Q _ => ∃ (s : Addr) (many : Int) (M : List Addr), vs = [.ref s, .int many] ∧ StrAt M H s ∧ 0 < many ∧ many < 1073741824 ∧
  ∀ d H', 0 ≤ d → d < many → StrAt M H' s → Adv [s] H H' → Q (.int d) H'
theorem ok_law_next (A : All K mg w) : FnOk P w K mg base CX0 1 A.law_next.f A.law_next.fd ["stream", "many"] spNext := by
  refine A.law_next.F.ok sc_law_next (fun vs H Q E h => ?_) (fun cdv Ar outer s H vs Q E hr h => ?_)
  · obtain ⟨a, ns, M, rfl, _⟩ := h
    rfl
  · obtain ⟨s, many, M, rfl, ⟨l, ns, c, k, hs, hl, hc, hk, hlM⟩, hm, hm2, q⟩ := h
    refine ⟨_, (pss_cut (ps_if (pt_cmpR op_eq (pe_ix ix_list (pv 0) pe_int (fun _ _ => rfl)) pe_int (nomark _))
      (pss_cons (ps_set (i := 2) sc_law_next.nd rfl (Or.inl rfl) (pe_ix ix_list (pv 0) pe_int (fun _ _ => rfl)))
      (pss_cons (ps_set (i := 3) sc_law_next.nd rfl (Or.inl rfl) (pe_op op_add pe_int (pv 2)))
      (pss_cut (ps_if (pt_cmpR op_lt (pv 2) (pe_callB call_len_seq (by rfl) A.T.len PySem.boot_len (pa_cons (pe_ix ix_list (pv 0) pe_int (fun _ _ => rfl)) pa_nil)) (nomark _))
        (pss_one (ps_set (i := 3) sc_law_next.nd rfl (Or.inl rfl) (pe_callB call_abs (by rfl) A.T.abs (by decide +kernel) (pa_cons (pe_ix ix_list (pe_ix ix_list (pv 0) pe_int (fun _ _ => rfl)) (pv 2) (fun _ _ => rfl)) pa_nil))))
        pss_nil)
      (pss_cut (ps_if (pt_cmpR op_lt (pv 3) (pe_op op_pow pe_int pe_int) (nomark _))
        (pss_cons (ps_set (i := 3) sc_law_next.nd rfl (Or.inl rfl) (pe_op op_mod (pe_callTy call_int1 (by rfl) A.T.int (by decide +kernel) (pa_cons (pe_op op_add (pe_op op_add (pe_op op_mul (pv 3) pe_int) (pe_op op_mul (pv 2) pe_int)) pe_int) pa_nil)) pe_int))
        (pss_one (ps_set (i := 3) sc_law_next.nd rfl (Or.inl rfl) (pe_op op_add (pe_op op_mul (pe_op op_mod (pe_callTy call_int1 (by rfl) A.T.int (by decide +kernel) (pa_cons (pe_op op_add (pe_op op_mul (pv 3) pe_int) pe_int) pa_nil)) pe_int) pe_int) (pv 3)))))
        pss_nil)
      (pss_cons (ps_asg (pv 3) (pg_sub (pv 0) pe_int set_list))
      (pss_one (ps_asg (pe_op op_add (pv 2) pe_int) (pg_sub (pv 0) pe_int set_list))))))))
      pss_nil)
      (pss_cons (ps_set (i := 4) sc_law_next.nd rfl (Or.inl rfl) (pe_op op_mod (pe_callTy call_int1 (by rfl) A.T.int (by decide +kernel) (pa_cons (pe_ix ix_list (pv 0) pe_int (fun _ _ => rfl)) pa_nil)) (pv 1)))
      (pss_cons (ps_asg (pe_op op_fdiv (pe_ix ix_list (pv 0) pe_int (fun _ _ => rfl)) (pv 1)) (pg_sub (pv 0) pe_int set_list))
      (pss_one (ps_ret (pv 4)))))), ?_⟩
    have at0 : ∀ c k : Int, atI [V.ref l, .int c, .int k] 0 = some (.ref l) := fun _ _ => atI_nat (j := 0) rfl
    have at1 : ∀ c k : Int, atI [V.ref l, .int c, .int k] 1 = some (.int c) := fun _ _ => atI_nat (j := 1) rfl
    have at2 : ∀ c k : Int, atI [V.ref l, .int c, .int k] 2 = some (.int k) := fun _ _ => atI_nat (j := 2) rfl
    have nls : l ≠ s := ne_of hl hs ne_lst_ints.symm
    refine ⟨fun σ' H' => ∃ (c k : Int) (v2 v3 : Option V), σ' = [some (.ref s), some (.int many), v2, v3, none] ∧ H' s = some (.lst [V.ref l, .int c, .int k]) ∧ 0 ≤ c ∧ 0 ≤ k ∧ Adv [s] H H', ?_, ?_⟩
    · refine ⟨_, rfl, s, _, 1, _, rfl, rfl, SqL.of hs, at1 c k, rfl, _, rfl, ?_⟩
      refine iteB (fun e => ?_) (fun e => ⟨c, k, none, none, rfl, hs, hc, hk, Adv.refl _ _⟩)
      -- a new cell
      refine ⟨_, rfl, s, _, 2, _, rfl, rfl, SqL.of hs, at2 c k, ?_⟩
      refine ⟨_, rfl, 7, k, rfl, rfl, ?_⟩
      refine ⟨fun σ' H' => ∃ c1 : Int, σ' = [some (.ref s), some (.int many), some (.int k), some (.int c1), none] ∧ H = H' ∧ 0 ≤ c1, ?_, ?_⟩
      · refine ⟨_, rfl, _, rfl, s, _, 0, _, rfl, rfl, SqL.of hs, at0 c k, l, _, rfl, .inl (SqL.of hl), k, _, rfl, rfl, _, rfl, ?_⟩
        refine iteB (fun e => ?_) (fun e => ⟨7 + k, rfl, rfl, by omega⟩)
        have hlt : k < ns.length := by simpa using e
        obtain ⟨j, rfl⟩ : ∃ j : Nat, k = (j : Int) := ⟨k.toNat, by omega⟩
        have hj : j < ns.length := by omega
        have hg : (ns.map V.int)[j]? = some (.int ns[j]) := by simp [hj]
        refine ⟨_, rfl, s, _, 0, _, rfl, rfl, SqL.of hs, at0 c _, _, rfl, l, _, (j : Int), _, rfl, rfl, SqL.of hl, atI_nat hg, _, rfl, ?_⟩
        refine ⟨_, rfl, rfl, ?_⟩
        split <;> omega
      · rintro σ' H' ⟨c1, rfl, rfl, hc1⟩
        refine ⟨fun σ' H' => ∃ c1 : Int, σ' = [some (.ref s), some (.int many), some (.int k), some (.int c1), none] ∧ H = H' ∧ 0 ≤ c1, ?_, ?_⟩
        · refine ⟨_, rfl, 10, 18, rfl, rfl, ⟨by decide, by decide, by decide⟩, c1, _, rfl, rfl, _, rfl, ?_⟩
          refine iteB (fun e => ?_) (fun e => ⟨c1, rfl, rfl, hc1⟩)
          refine ⟨_, rfl, c1, 48271, rfl, rfl, .inr ⟨by decide, by decide⟩, _, rfl, k, 69621, rfl, rfl, .inr ⟨by decide, by decide⟩, _, _, rfl, rfl, _, _, rfl, rfl, .inl ⟨_, rfl, _, 2147483647, rfl, rfl, by show (0 : Int) < 2147483647; decide, ?_⟩⟩
          refine ⟨_, rfl, _, 16807, rfl, rfl, .inr ⟨by decide, by decide⟩, _, _, rfl, rfl, .inl ⟨_, rfl, _, 2147483647, rfl, rfl, by show (0 : Int) < 2147483647; decide, ?_⟩⟩
          refine ⟨_, _, rfl, rfl, .inr ⟨by decide, by decide⟩, _, rfl, _, _, rfl, rfl, ?_⟩
          refine ⟨_, rfl, rfl, ?_⟩
          omega
        · rintro σ' H' ⟨c2, rfl, rfl, hc2⟩
          refine ⟨_, rfl, _, rfl, s, _, 1, 1, rfl, rfl, hs, rfl, ?_⟩
          refine ⟨_, rfl, k, 1, rfl, rfl, _, rfl, s, _, 2, 2, rfl, rfl, upd_same, rfl, ?_⟩
          refine ⟨c2, k + 1, _, _, rfl, ?_, hc2, by omega, ?_⟩
          · rw [upd_same]
            rfl
          · exact ((Adv.refl _ _).setT (by simp)).setT (by simp)
    · rintro σ' H1 ⟨c, k, v2, v3, rfl, h1, hc, hk, a⟩
      refine ⟨_, rfl, s, _, 1, _, rfl, rfl, SqL.of h1, at1 c k, .inl ⟨c, rfl, _, rfl, c, many, rfl, rfl, hm, ?_⟩⟩
      refine ⟨_, rfl, s, _, 1, _, rfl, rfl, SqL.of h1, at1 c k, _, rfl, c, many, rfl, rfl, ⟨hm, hm2⟩, ?_⟩
      refine ⟨_, rfl, s, _, 1, 1, rfl, rfl, h1, rfl, ?_⟩
      refine ⟨_, rfl, ?_⟩
      have hl1 : H1 l = some (.lst (ns.map V.int)) := a _ _ (by simpa using nls) hl
      refine q _ _ (Int.emod_nonneg _ (Int.ne_of_gt hm)) (Int.emod_lt_of_pos _ hm) ⟨l, ns, c / many, k, upd_same, by rw [upd_ne nls]; exact hl1, Int.ediv_nonneg hc (Int.le_of_lt hm), hk, hlM⟩ ?_
      exact a.setT (by simp)
/-! ### _law_pick: out of a list, out of a tuple -/
def spPick : Sp := fun vs H Q _ => ∃ (s r : Addr) (xs : List V) (M : List Addr), vs = [.ref s, .ref r] ∧ StrAt M H s ∧ (H r = some (.lst xs) ∨ H r = some (.tup xs)) ∧ r ≠ s ∧ xs ≠ [] ∧ xs.length < 1073741824 ∧
  ∀ x H', x ∈ xs → StrAt M H' s → Adv [s] H H' → Q x H'
theorem ok_law_pick (A : All K mg w) : FnOk P w K mg base CX0 2 A.law_pick.f A.law_pick.fd ["stream", "rows"] spPick := by
  refine A.law_pick.F.ok sc_law_pick (fun vs H Q E h => ?_) (fun cdv Ar outer s H vs Q E hr h => ?_)
  · obtain ⟨s, r, xs, M, rfl, _⟩ := h
    rfl
  · obtain ⟨s, r, xs, M, rfl, hs, hx, nrs, hne, hl, q⟩ := h
    refine ⟨_, pss_one (ps_ret (pe_ix (ix_or ix_list ix_tup) (pv 1) (pe_call (ok_law_next A) (hr.mono (by decide)) rfl A.law_next.m A.law_next.F.kp A.law_next.b .nil pass0 (pa_cons (pv 0) (pa_cons (pe_callB call_len_seq (by rfl) A.T.len PySem.boot_len (pa_cons (pv 1) pa_nil)) pa_nil))) (fun _ _ => rfl))), ?_⟩
    have hpos : 0 < xs.length := List.length_pos_iff.mpr hne
    refine ⟨_, rfl, _, rfl, _, rfl, r, xs, rfl, ?_, s, _, M, rfl, hs, by omega, by omega, fun d H' h0 h1 hs' a => ?_⟩
    · rcases hx with h | h
      · exact .inl (SqL.of h)
      · exact .inr (SqT.of h)
    · obtain ⟨j, rfl⟩ : ∃ j : Nat, d = (j : Int) := ⟨d.toNat, by omega⟩
      have hj : j < xs.length := by omega
      have hg : xs[j]? = some xs[j] := List.getElem?_eq_getElem hj
      have nm : r ∉ [s] := by simpa using nrs
      rcases hx with h | h
      · exact .inl ⟨r, xs, j, xs[j], rfl, rfl, SqL.of (a _ _ nm h), atI_nat hg, q _ _ (List.getElem_mem hj) hs' a⟩
      · exact .inr ⟨r, xs, j, xs[j], rfl, rfl, SqT.of (a _ _ nm h), atI_nat hg, q _ _ (List.getElem_mem hj) hs' a⟩
/-! ### _law_from -/
def spFrom : Sp := fun vs H Q _ => ∃ (s : Addr) (lo hi : Int) (M : List Addr), vs = [.ref s, .int lo, .int hi] ∧ StrAt M H s ∧ lo ≤ hi ∧ hi - lo < 1073741823 ∧
  ∀ d H', lo ≤ d → d ≤ hi → StrAt M H' s → Adv [s] H H' → Q (.int d) H'
theorem ok_law_from (A : All K mg w) : FnOk P w K mg base CX0 2 A.law_from.f A.law_from.fd ["stream", "low", "high"] spFrom := by
  refine A.law_from.F.ok sc_law_from (fun vs H Q E h => ?_) (fun cdv Ar outer s H vs Q E hr h => ?_)
  · obtain ⟨s, lo, hi, M, rfl, _⟩ := h
    rfl
  · obtain ⟨s, lo, hi, M, rfl, hs, h1, h2, q⟩ := h
    refine ⟨_, pss_one (ps_ret (pe_op op_add (pv 1) (pe_call (ok_law_next A) (hr.mono (by decide)) rfl A.law_next.m A.law_next.F.kp A.law_next.b .nil pass0 (pa_cons (pv 0) (pa_cons (pe_op op_add (pe_op op_sub (pv 2) (pv 1)) pe_int) pa_nil))))), ?_⟩
    refine ⟨_, rfl, _, rfl, _, rfl, _, rfl, hi, lo, rfl, rfl, _, _, rfl, rfl, s, _, M, rfl, hs, by omega, by omega, fun d H' h0 h1 hs' a => ?_⟩
    exact ⟨lo, d, rfl, rfl, q _ _ (by omega) (by omega) hs' a⟩
end

set_option Elab.async false
set_option linter.all false
set_option maxRecDepth 100000
set_option maxHeartbeats 4000000
open PySem PySem.Spec PyProof.Rows L2 LL
open C8 (pss_cut)
section
variable [KW]
variable {P : Program} {w : World} {K : PySem.W.Frag} {mg : Str → Option Value} {base : Heap}
/-! ### is_integer, is_between -/
def spIsInteger : Sp := fun vs H Q _ => ∃ (v : V) (d : PyData), vs = [v] ∧ Is [] H d v ∧ Q (.bl (kitD d "int" && !kitD d "bool")) H
theorem ok_is_integer (A : All K mg w) : FnOk P w K mg base CX0 1 A.is_integer.f A.is_integer.fd ["value"] spIsInteger := by
  refine A.is_integer.F.ok sc_is_integer (fun vs H Q E h => ?_) (fun cdv Ar outer s H vs Q E hr h => ?_)
  · obtain ⟨v, d, rfl, _⟩ := h
    rfl
  · obtain ⟨v, d, rfl, hv, q⟩ := h
    refine ⟨_, (pss_one (ps_ret (pe_and (pe_callB call_isi (by rfl) A.T.isinstance (by decide +kernel) (pa_cons (pv 0) (pa_cons (pe_bltn (v := .ty "int") (by rfl) A.T.int (by decide +kernel) rfl) pa_nil))) (pe_one (pe_not (pe_callB call_isi (by rfl) A.T.isinstance (by decide +kernel) (pa_cons (pv 0) (pa_cons (pe_bltn (v := .ty "bool") (by rfl) A.T.bool (by decide +kernel) rfl) pa_nil)))))))), ?_⟩
    refine ⟨_, rfl, _, _, _, _, _, rfl, .ty _, hv.ty A.W, k_int d, _, rfl, iteB (fun e => ?_) (fun e => ?_)⟩
    · refine ⟨_, rfl, _, _, _, _, _, rfl, .ty _, hv.ty A.W, k_bool d, _, rfl, ?_⟩
      rw [e, Bool.true_and] at q
      exact q
    · rw [e, Bool.false_and] at q
      exact q
theorem isNum_of (d : PyData) (lo hi : Int) : (if (kitD d "int" && !kitD d "bool") = true then isNum lo hi d else false) = isNum lo hi d := by
  cases d <;> simp [kitD, isNum, tyN]
def spIsBetween : Sp := fun vs H Q _ => ∃ (v : V) (d : PyData) (lo hi : Int), vs = [v, .int lo, .int hi] ∧ Is [] H d v ∧ Q (.bl (isNum lo hi d)) H
theorem ok_is_between (A : All K mg w) : FnOk P w K mg base CX0 2 A.is_between.f A.is_between.fd ["value", "low", "high"] spIsBetween := by
  refine A.is_between.F.ok sc_is_between (fun vs H Q E h => ?_) (fun cdv Ar outer s H vs Q E hr h => ?_)
  · obtain ⟨v, d, lo, hi, rfl, _⟩ := h
    rfl
  · obtain ⟨v, d, lo, hi, rfl, hv, q⟩ := h
    refine ⟨_, (pss_one (ps_ret (pe_and (pe_call (ok_is_integer A) (hr.mono (by decide)) rfl A.is_integer.m A.is_integer.F.kp A.is_integer.b .nil pass0 (pa_cons (pv 0) pa_nil)) (pe_one (pe_chain op_le op_le (pv 1) (pv 0) (pv 2)))))), ?_⟩
    rw [← isNum_of] at q
    refine ⟨_, rfl, v, d, rfl, hv, _, rfl, iteB (fun e => ?_) (fun e => ?_)⟩
    · rw [if_pos e] at q
      cases d with
      | int i =>
        cases hv.intE
        refine ⟨_, rfl, _, rfl, lo, i, rfl, rfl, _, rfl, iteB (fun e1 => ?_) (fun e1 => ?_)⟩
        · refine ⟨_, rfl, i, hi, rfl, rfl, ?_⟩
          have q' : Q (.bl (decide (lo ≤ i) && decide (i ≤ hi))) H := q
          rw [e1, Bool.true_and] at q'
          exact q'
        · have q' : Q (.bl (decide (lo ≤ i) && decide (i ≤ hi))) H := q
          rw [e1, Bool.false_and] at q'
          exact q'
      | _ => simp [kitD, tyN] at e
    · rw [if_neg (by rw [e]; decide)] at q
      exact q
/-! ### _law_number -/
/-! ### is_boxed, _law_is_boxed, check_logic of a right logic -/
def logicB (x : Str) : Bool := x = "k" || x = "s4" || x = "gl"
def logicOk (x : Str) : Bool := x = "classical" || x = "intuit" || x = "k" || x = "s4" || x = "gl"
theorem inV_strs (x : Str) (ws : List Str) : inV (.str x) (ws.map V.str) = ws.any fun y => decide (x = y) := by
  unfold inV
  rw [List.any_map]
  congr 1
  funext y
  show (y == x) = decide (x = y)
  by_cases h : x = y
  · subst h; simp
  · have h2 : ¬ y = x := fun z => h z.symm
    simp [h, h2]
def spIsBoxed : Sp := fun vs H Q _ => ∃ (x : Str), vs = [.str x] ∧ ∀ H', Adv [] H H' → Q (.bl (logicB x)) H'
theorem ok_is_boxed (A : All K mg w) : FnOk P w K mg base CX0 1 A.is_boxed.f A.is_boxed.fd ["logic"] spIsBoxed := by
  refine A.is_boxed.F.ok sc_is_boxed (fun vs H Q E h => ?_) (fun cdv Ar outer s H vs Q E hr h => ?_)
  · obtain ⟨x, rfl, _⟩ := h
    rfl
  · obtain ⟨x, rfl, q⟩ := h
    obtain ⟨a, ma, ha⟩ := A.C.modal
    refine ⟨_, (pss_one (ps_ret (pe_cmpR op_in_seq (pv 0) (pe_glob (v := .ref a) rfl ma rfl) rfl))), ?_⟩
    refine ⟨_, rfl, a, _, rfl, .inr (ha H), rfl, by decide, ?_⟩
    have e : inV (.str x) [.str "k", .str "s4", .str "gl"] = logicB x := (inV_strs x ["k", "s4", "gl"]).trans (by simp [logicB, Bool.or_assoc])
    rw [if_neg Bool.false_ne_true, e]
    exact q H (Adv.refl _ _)
theorem ok_law_is_boxed (A : All K mg w) : FnOk P w K mg base CX0 1 A.law_is_boxed.f A.law_is_boxed.fd ["logic"] spIsBoxed := by
  refine A.law_is_boxed.F.ok sc_law_is_boxed (fun vs H Q E h => ?_) (fun cdv Ar outer s H vs Q E hr h => ?_)
  · obtain ⟨x, rfl, _⟩ := h
    rfl
  · obtain ⟨x, rfl, q⟩ := h
    refine ⟨_, (pss_one (ps_ret (pe_cmpR op_in_seq (pv 0) (pe_tup (pa_cons pe_str (pa_cons pe_str (pa_cons pe_str pa_nil)))) rfl))), ?_⟩
    refine ⟨_, rfl, by show 3 ≤ sizeLine; decide, fun p np => ⟨p, _, rfl, .inr (SqT.of upd_same), rfl, by decide, ?_⟩⟩
    have e : inV (.str x) [.str "k", .str "s4", .str "gl"] = logicB x := (inV_strs x ["k", "s4", "gl"]).trans (by simp [logicB, Bool.or_assoc])
    rw [if_neg Bool.false_ne_true, e]
    exact q _ (Adv.new np)
end

set_option Elab.async false
set_option linter.all false
set_option maxRecDepth 100000
set_option maxHeartbeats 4000000
open PySem PySem.Spec PyProof.Rows L2 LL
open C8 (pss_cut)
theorem cut_from1 (xs : List V) : cutV xs (some 1) none = xs.drop 1 := by
  unfold cutV
  rw [show HT.sIx xs.length 0 (some 1) = min 1 xs.length from HT.sIx_nat xs.length 0 1, HT.sIx_none]
  cases xs with
  | nil => rfl
  | cons x r =>
    have e : min 1 (x :: r).length = 1 := by rw [List.length_cons]; omega
    rw [e]
    simp
theorem all_id (bs : List Bool) (f : PyData → Bool) (ds : List PyData) (h : bs = ds.map f) : bs.all id = ds.all f := by
  rw [h, List.all_map]
  rfl
section
variable [KW]
variable {P : Program} {w : World} {K : PySem.W.Frag} {mg : Str → Option Value} {base : Heap}
def spIsNode : Sp := fun vs H Q _ => ∃ (v : V) (d : PyData) (row : Int) (boxed : Bool), vs = [v, .int row, .bl boxed] ∧ Is [] H d v ∧ ∀ H', Adv [] H H' → Q (.bl (nodeB boxed row d)) H'
theorem ok_is_node (A : All K mg w) : FnOk P w K mg base CX0 3 A.is_node.f A.is_node.fd ["value", "row", "boxed"] spIsNode := by
  refine A.is_node.F.ok sc_is_node (fun vs H Q E h => ?_) (fun cdv Ar outer s H vs Q E hr h => ?_)
  · obtain ⟨v, d, row, boxed, rfl, _⟩ := h
    rfl
  · obtain ⟨v, d, row, boxed, rfl, hv, q⟩ := h
    obtain ⟨tL, mL⟩ := A.C.last
    obtain ⟨ai, es, n, mi, KD, hi⟩ := A.C.items
    refine ⟨_, (pss_cons (ps_if (PW.pt (pw_or (pt_not (pt_val (pe_callB call_isi (by rfl) A.T.isinstance (by decide +kernel) (pa_cons (pv 0) (pa_cons (pe_bltn (v := .ty "tuple") (by rfl) A.T.tuple (by decide +kernel) rfl) pa_nil))))) (pw_or (pt_cmpR op_eq (pe_callB call_len_seq (by rfl) A.T.len PySem.boot_len (pa_cons (pv 0) pa_nil)) pe_int (nomark _)) (pw_or1 (pt_not (pt_val (pe_callB call_isi (by rfl) A.T.isinstance (by decide +kernel) (pa_cons (pe_ix ix_tup (pv 0) pe_int (fun _ _ => rfl)) (pa_cons (pe_bltn (v := .ty "str") (by rfl) A.T.str (by decide +kernel) rfl) pa_nil)))))))))
    (pss_one (ps_ret pe_bl))
    pss_nil)
  (pss_cons (ps_set (i := 3) sc_is_node.nd rfl (Or.inl rfl) (pe_ix ix_tup (pv 0) pe_int (fun _ _ => rfl)))
  (pss_cons (ps_if (pt_cmpR op_ne (pe_kget (pe_glob (v := .ref ai) rfl mi rfl) (pv 3) ⟨rfl, rfl, rfl, rfl⟩) (pe_callB call_len_seq (by rfl) A.T.len PySem.boot_len (pa_cons (pv 0) pa_nil)) (nomark _))
    (pss_one (ps_ret pe_bl))
    pss_nil)
  (pss_cons (ps_if (pt_cmpR op_eq (pv 3) pe_str (nomark _))
    (pss_one (ps_ret (pe_call (ok_is_between A) (hr.mono (by omega)) rfl A.is_between.m A.is_between.F.kp A.is_between.b .nil pass0 (pa_cons (pe_ix ix_tup (pv 0) pe_int (fun _ _ => rfl)) (pa_cons pe_int (pa_cons (pe_glob (v := .int 7) rfl mL ⟨_, rfl⟩) pa_nil))))))
    pss_nil)
  (pss_cons (ps_if (PW.pt (pw_and (pt_cmpR op_eq (pv 3) pe_str (nomark _)) (pw_and1 (pt_not (pt_val (pv 2))))))
    (pss_one (ps_ret pe_bl))
    pss_nil)
  (pss_one (ps_ret (pe_callB (cr_all rfl) (by rfl) A.T.all (by decide +kernel) (pa_cons (pe_lc (own := [("part", 4)]) (g := (gName 4)) rfl sc_is_node.nd (pi_tup (pe_slice sl_tup (pv 0) (po_some pe_int) po_none)) (blkOk_by (own := [("part", 4)]) (N := ["value", "row", "boxed", "word", "part"]) (sc := defScope s_is_node) (by decide +kernel)) (fun _ _ _ _ _ => pg_name (i := 4) sc_is_node.nd rfl (Or.inl rfl)) (fun _ _ _ _ _ => pts_nil) (fun _ _ _ _ _ => (pe_call (ok_is_between A) (hr.mono (by omega)) rfl A.is_between.m A.is_between.F.kp A.is_between.b .nil pass0 (pa_cons (pv 4) (pa_cons pe_int (pa_cons (pe_op op_sub (pv 1) pe_int) pa_nil)))))) pa_nil))))))))), ?_⟩
    have no : ¬ (∃ ds, d = .tuple ds) → kitD d "tuple" = false ∧ nodeB boxed row d = false := fun h => by
      cases d with
      | tuple ds => exact absurd ⟨ds, rfl⟩ h
      | _ => exact ⟨by simp [kitD, tyN], rfl⟩
    refine ⟨_, rfl, _, _, _, _, _, rfl, .ty _, hv.ty A.W, k_tuple d, _, rfl, ?_⟩
    by_cases ht : ∃ ds, d = .tuple ds
    case neg =>
      obtain ⟨e1, e2⟩ := no ht
      refine iteY (by rw [e1]; rfl) (iteY rfl ?_)
      have q' := q H (Adv.refl _ _)
      rw [e2] at q'
      exact q'
    obtain ⟨ds, rfl⟩ := ht
    refine iteN (by simp [kitD, tyN]) ?_
    obtain ⟨a, vs, rfl, htp, hs⟩ := hv.tupE
    refine ⟨_, rfl, a, vs, rfl, .inr (htp.sq A.W), rfl, _, rfl, ?_⟩
    cases ds with
    | nil =>
      have e0 : vs = [] := by unfold IsDs at hs; exact hs
      subst e0
      exact iteY rfl (iteY rfl (q H (Adv.refl _ _)))
    | cons d0 ps =>
      have hlen := hs.len
      have hs' := hs
      unfold IsDs at hs
      obtain ⟨v0, rs, rfl, h0, hps⟩ := hs
      refine iteN (by simp [List.length_cons]; omega) ?_
      refine ⟨_, rfl, a, _, 0, v0, rfl, rfl, htp.sq A.W, atI_nat (j := 0) rfl, _, _, _, _, _, rfl, .ty _, h0.ty A.W, k_str d0, _, rfl, ?_⟩
      by_cases hw : ∃ w, d0 = .str w
      case neg =>
        have e1 : kitD d0 "str" = false := by
          cases d0 with
          | str x => exact absurd ⟨x, rfl⟩ hw
          | _ => simp [kitD, tyN]
        have e2 : nodeB boxed row (.tuple (d0 :: ps)) = false := by
          cases d0 with
          | str x => exact absurd ⟨x, rfl⟩ hw
          | _ => rfl
        refine iteY (by rw [e1]; rfl) ?_
        have q' := q H (Adv.refl _ _)
        rw [e2] at q'
        exact q'
      obtain ⟨wd, rfl⟩ := hw
      cases h0.strE
      refine iteN (by simp [kitD, tyN]) ?_
      -- word = value[0]
      refine ⟨_, rfl, a, _, 0, _, rfl, rfl, htp.sq A.W, atI_nat (j := 0) rfl, ?_⟩
      -- ITEMS.get(word) != len(value)
      obtain ⟨r, er, rr⟩ := hi wd
      refine ⟨ai, es, n, rfl, KD, _, rfl, wd, r, _, rfl, er, rr, _, rfl, a, _, rfl, .inr (htp.sq A.W), ?_, _, rfl, ?_⟩
      · cases nItems wd <;> rfl
      have hl2 : rs.length = ps.length := hps.len
      have hnode : nodeB boxed row (.tuple (.str wd :: ps)) = (if nItems wd = some (ps.length + 1) then (if wd = "letter" then ps.all (isNum 0 7) else if wd = "box" && !boxed then false else ps.all (isNum 0 (row - 1))) else false) := rfl
      rw [hnode] at q
      by_cases hn : nItems wd = some (ps.length + 1)
      case neg =>
        rw [if_neg hn] at q
        refine iteY ?_ (q H (Adv.refl _ _))
        cases en : nItems wd with
        | none => rfl
        | some k =>
          have hk : ¬ k = ps.length + 1 := fun z => hn (by rw [en, z])
          simp [hl2]
          omega
      rw [if_pos hn] at q
      refine iteN (by rw [hn]; simp [hl2]) ?_
      -- word == 'letter'
      refine ⟨_, rfl, rfl, _, rfl, ?_⟩
      by_cases hlet : wd = "letter"
      · subst hlet
        rw [if_pos rfl] at q
        refine iteY (by simp) ?_
        have h2 : ps.length = 1 := by
          have e : nItems "letter" = some 2 := by decide +kernel
          rw [e] at hn
          have := Option.some.inj hn
          omega
        obtain ⟨p, rfl⟩ : ∃ p, ps = [p] := List.length_eq_one_iff.mp h2
        unfold IsDs at hps
        obtain ⟨v1, r1, rfl, h1, hn1⟩ := hps
        refine ⟨_, rfl, a, _, 1, v1, rfl, rfl, htp.sq A.W, atI_nat (j := 1) rfl, v1, p, 0, 7, rfl, h1, ?_⟩
        have q' := q H (Adv.refl _ _)
        simpa using q'
      · rw [if_neg hlet] at q
        refine iteN (by simp [hlet]) ?_
        refine ⟨_, rfl, rfl, _, rfl, ?_⟩
        have go : (wd = "box" && !boxed) = false → tRet (tCB (rAll K) (tCons (tLc (iTup K (tSl (rSlT K) (tVar 0) (tPart (tC (.int 1))) tNoPart)) (gName 4) tYes (tCall spIsBetween [] E0 (tCons (tVar 4) (tCons (tC (.int 0)) (tCons (tOp (rI0 fun i j => .int (i - j)) (tVar 1) (tC (.int 1))) tNil)))) [4]) tNil)) { nx := fun _ H' => Q .non H', rt := Q } [some (.ref a), some (.int row), some (.bl boxed), some (.str wd), none] H := fun hb => by
          rw [if_neg (by rw [hb]; decide)] at q
          refine ⟨_, rfl, 1, rfl, a, _, rfl, htp.sq A.W, ?_, fun p np => ?_⟩
          · intro z
            have z1 := z.1
            rw [show HT.sIx (V.str wd :: rs).length 0 (some 1) = min 1 (V.str wd :: rs).length from HT.sIx_nat _ 0 1, List.length_cons] at z1
            omega
          · rw [cut_from1]
            refine ⟨p, rfl, ⟨_, SqT.of upd_same⟩, fun D nD => ?_⟩
            have aP : Adv [] H (upd H p (.tup rs)) := Adv.new np
            refine lc_mapT (K := K) (a := p) (xs := rs) (fun i => V.bl (isNum 0 (row - 1) (ps.getD i .none))) nD (SqT.of upd_same) ?_ ?_ ?_
            · have : ps.length ≤ 3 := by
                unfold nItems at hn
                repeat' (split at hn)
                all_goals first | (have := Option.some.inj hn; omega) | cases hn
              omega
            · intro i x H' acc R hx aH hD k
              have hip : i < ps.length := by rw [← hl2]; exact (List.getElem?_eq_some_iff.mp hx).1
              obtain ⟨dx, hdx, hisx⟩ := hps.getV hx
              have ed : ps.getD i .none = dx := by rw [List.getD_eq_getElem?_getD, hdx]; rfl
              refine ⟨rfl, x, rfl, _, rfl, row, 1, rfl, rfl, x, dx, 0, row - 1, rfl, (hisx.adv (aP.trans aH)), ?_⟩
              have k' := k H' hD aH
              rw [ed] at k'
              exact k'
            · intro H' aH hD
              refine ⟨D, ps.map (isNum 0 (row - 1)), rfl, .inl (.inl ?_), ?_⟩
              · rw [hD, hl2, range_map_list]
              · have q' := q H' (aP.trans aH)
                rw [all_id _ (isNum 0 (row - 1)) ps rfl]
                exact q'
        by_cases hbx : wd = "box"
        · subst hbx
          refine iteY (by simp) ⟨_, rfl, _, rfl, ?_⟩
          cases boxed with
          | true => exact iteN rfl (go (by simp))
          | false =>
            rw [if_pos (by simp)] at q
            exact iteY rfl (q H (Adv.refl _ _))
        · refine iteN (by simp [hbx]) ?_
          exact go (by simp [hbx])
end

set_option Elab.async false
set_option linter.all false
set_option maxRecDepth 100000
set_option maxHeartbeats 4000000
open PySem PySem.Spec PyProof.Rows L2 LL
open C8 (pss_cut)
def fiveB (x : Str) : Bool := x = "no" || x = "and" || x = "or" || x = "if" || x = "box"
section
variable [KW]
variable {P : Program} {w : World} {K : PySem.W.Frag} {mg : Str → Option Value} {base : Heap}
end

set_option Elab.async false
set_option linter.all false
set_option maxRecDepth 100000
set_option maxHeartbeats 4000000
open PySem PySem.Spec PyProof.Rows L2 LL
open C8 (pss_cut)
def resV : Option Int → V
  | some i => .int i
  | none => .non
theorem wrongF_at {most : Int} {boxed : Bool} {ds : List PyData} {i : Nat} {d : PyData} {seen : List (List Key)} (h : ds[i]? = some d) :
    wrongF most boxed i seen (ds.drop i) = if (i : Int) < most then (if nodeB boxed i d then (if memK (keysD d) seen = true then some (i : Int) else wrongF most boxed ((i + 1 : Nat) : Int) (seen ++ [keysD d]) (ds.drop (i + 1))) else some (i : Int)) else some (i : Int) := by
  obtain ⟨hi, e⟩ := List.getElem?_eq_some_iff.mp h
  rw [List.drop_eq_getElem_cons hi, e]
  rfl
theorem wrongF_end {most : Int} {boxed : Bool} {ds : List PyData} {seen : List (List Key)} {i : Nat} (h : i = ds.length) : wrongF most boxed i seen (ds.drop i) = none := by
  rw [h, List.drop_length]
  rfl
section
variable [KW]
variable {P : Program} {w : World} {K : PySem.W.Frag} {mg : Str → Option Value} {base : Heap}
def spWrongRow : Sp := fun vs H Q _ => ∃ (v : V) (d : PyData) (most : Int) (boxed : Bool), vs = [v, .int most, .bl boxed] ∧ Is [] H d v ∧ 0 ≤ most ∧ (∀ ds, d = .list ds → ds.length ≤ 1000000) ∧ ∀ H', Adv [] H H' → Q (resV (wrongD most boxed d)) H'
theorem no_list {d : PyData} {most : Int} {boxed : Bool} (h : ¬ ∃ ds, d = .list ds) : kitD d "list" = false ∧ wrongD most boxed d = some (-1) := by
  cases d with
  | list ds => exact absurd ⟨ds, rfl⟩ h
  | _ => exact ⟨by simp [kitD, tyN], rfl⟩
theorem ok_wrong_row (A : All K mg w) : FnOk P w K mg base CX0 4 A.wrong_row.f A.wrong_row.fd ["value", "most", "boxed"] spWrongRow := by
  refine A.wrong_row.F.ok sc_wrong_row (fun vs H Q E h => ?_) (fun cdv Ar outer s H vs Q E hr h => ?_)
  · obtain ⟨v, d, most, boxed, rfl, _⟩ := h
    rfl
  · obtain ⟨v, d, most, boxed, rfl, hv, h0, hz, q⟩ := h
    refine ⟨_, (pss_cons (ps_if (pt_not (pt_val (pe_callB call_isi (by rfl) A.T.isinstance (by decide +kernel) (pa_cons (pv 0) (pa_cons (pe_bltn (v := .ty "list") (by rfl) A.T.list (by decide +kernel) rfl) pa_nil)))))
    (pss_one (ps_ret (pe_un un_neg pe_int)))
    pss_nil)
  (pss_cons (ps_set (i := 3) sc_wrong_row.nd rfl (Or.inl rfl) (pe_dnewX A.W))
  (pss_cons (ps_for PassesOwn.never rfl (pi_enum (by rfl) A.T.enumerate (pa_cons (pv 0) pa_nil)) (pg_tup rfl (pgs_cons (pg_name (i := 4) sc_wrong_row.nd rfl (Or.inl rfl)) (pgs_cons (pg_name (i := 5) sc_wrong_row.nd rfl (Or.inl rfl)) pgs_nil)))
    (pss_cons (ps_if (PW.pt (pw_or (pt_cmpR op_ge (pv 4) (pv 1) (nomark _)) (pw_or (pt_not (pt_val (pe_call (ok_is_node A) (hr.mono (by omega)) rfl A.is_node.m A.is_node.F.kp A.is_node.b .nil pass0 (pa_cons (pv 5) (pa_cons (pv 4) (pa_cons (pv 2) pa_nil)))))) (pw_or1 (pt_cmp (pc_dinX A.W (hu_of hr) (pv 5) (pv 3)))))))
    (pss_one (ps_ret (pv 4)))
    pss_nil)
  (pss_one (ps_dputX A.W (hu_of hr) (pv 3) (pv 5) pe_bl rfl))))
  (pss_one (ps_ret pe_non))))), ?_⟩
    refine ⟨_, rfl, _, _, _, _, _, rfl, .ty _, hv.ty A.W, k_list d, _, rfl, ?_⟩
    by_cases ht : ∃ ds, d = .list ds
    case neg =>
      obtain ⟨e1, e2⟩ := no_list (most := most) (boxed := boxed) ht
      refine iteY (by rw [e1]; rfl) ⟨1, rfl, ?_⟩
      have q' := q H (Adv.refl _ _)
      rw [e2] at q'
      exact q'
    obtain ⟨ds, rfl⟩ := ht
    refine iteN (by simp [kitD, tyN]) ?_
    obtain ⟨a, vs, rfl, na, ha, hs⟩ := hv.lstE
    have hl := hs.len
    have hsz := hz ds rfl
    intro d hd
    refine ⟨_, rfl, a, vs, rfl, SqL.of (by rw [upd_ne (ne_of_none ha hd)]; exact ha), ?_⟩
    refine for_enum (K := K) (a := a) (xs := vs) (fun i σ' H' => ∃ (v4 v5 : Option V) (kvs : List (List Key × V)), σ' = [some (.ref a), some (.int most), some (.bl boxed), some (.ref d), v4, v5] ∧ Adv [] H H' ∧ Tab [d] H' d kvs ∧ kvs.length ≤ i ∧ wrongF most boxed 0 [] ds = wrongF most boxed i (kvs.map (·.1)) (ds.drop i))
      ⟨none, none, [], rfl, Adv.new hd, Tab.new upd_same, Nat.le_refl _, rfl⟩ (fun i σ' H' _ ⟨_, _, _, _, a', _⟩ => a'.same _ _ ha) ?_ ?_
    · rintro i x T σ' H' hx ⟨v4, v5, kvs, rfl, a', hk, hkl, hw⟩ nT
      obtain ⟨dx, hdx, hisx⟩ := hs.getV hx
      rw [wrongF_at hdx] at hw
      have hi : i < ds.length := (List.getElem?_eq_some_iff.mp hdx).1
      refine ⟨T, _, rfl, SqT.of upd_same, rfl, _, _, rfl, _, _, rfl, rfl, ?_⟩
      have aT : Adv [] H (upd H' T (.tup [.int (i : Nat), x])) := a'.trans (Adv.new nT)
      have hkT : Tab [d] (upd H' T (.tup [.int (i : Nat), x])) d kvs := hk.same (Adv.new nT)
      refine ⟨_, rfl, _, rfl, (i : Int), most, rfl, rfl, _, rfl, ?_⟩
      by_cases hm : (i : Int) < most
      case neg =>
        rw [if_neg hm] at hw
        refine iteY (decide_eq_true (by omega)) (iteY rfl ⟨_, rfl, ?_⟩)
        have q' := q _ aT
        rw [show wrongD most boxed (.list ds) = wrongF most boxed 0 [] ds from rfl, hw] at q'
        exact q'
      rw [if_pos hm] at hw
      refine iteN (decide_eq_false (by omega)) ?_
      refine ⟨x, rfl, _, rfl, _, rfl, x, dx, (i : Int), boxed, rfl, hisx.adv aT, fun H3 a3 => ⟨_, rfl, ?_⟩⟩
      cases hn : nodeB boxed i dx with
      | false =>
        rw [if_neg (by rw [hn]; decide)] at hw
        refine iteY rfl (iteY rfl ⟨_, rfl, ?_⟩)
        have q' := q _ (aT.trans a3)
        rw [show wrongD most boxed (.list ds) = wrongF most boxed 0 [] ds from rfl, hw] at q'
        exact q'
      | true =>
        rw [if_pos hn] at hw
        refine iteN rfl ?_
        have hk3 := hkT.same a3
        obtain ⟨b, rfl, hb⟩ := node_keys ((hisx.fresh hd).adv ((aT.trans a3).more (by simp))) hn
        refine ⟨_, rfl, _, rfl, d, _, rfl, hk3.get A.W hb, _, rfl, ?_⟩
        rw [val_mem]
        cases hm2 : memK (keysD dx) (kvs.map (·.1)) with
        | true =>
          rw [if_pos hm2] at hw
          refine iteY rfl ⟨_, rfl, ?_⟩
          have q' := q _ (aT.trans a3)
          rw [show wrongD most boxed (.list ds) = wrongF most boxed 0 [] ds from rfl, hw] at q'
          exact q'
        | false =>
          rw [if_neg (by rw [hm2]; decide)] at hw
          refine iteN rfl ?_
          obtain ⟨o, hg, t2⟩ := hk3.putH A.W (by simp) hb (by rw [sizeLine_eq]; omega) (.bl true)
          refine ⟨_, rfl, _, rfl, d, _, rfl, hg, ?_⟩
          rw [put_new _ _ _ hm2] at t2
          refine ⟨_, _, _, rfl, (aT.trans a3).mut hd, t2, by rw [List.length_append, List.length_singleton]; omega, ?_⟩
          rw [hw, List.map_append]
          rfl
    · rintro σ' H' ⟨v4, v5, kvs, rfl, a', hk, hkl, hw⟩
      rw [wrongF_end hl] at hw
      have q' := q _ a'
      rw [show wrongD most boxed (.list ds) = wrongF most boxed 0 [] ds from rfl, hw] at q'
      exact q'
end

set_option Elab.async false
set_option linter.all false
set_option maxRecDepth 100000
set_option maxHeartbeats 4000000
open PySem PySem.Spec PyProof.Rows L2 LL
open C8 (pss_cut)
def prD (d : PyData) : PyData := .tuple [d, d]
section
variable [KW]
variable {P : Program} {w : World} {K : PySem.W.Frag} {mg : Str → Option Value} {base : Heap}
def spSame : Sp := fun vs H Q _ => ∃ (v1 v2 : V) (d : PyData), vs = [v1, v2] ∧ Is [] H d v1 ∧ Is [] H d v2 ∧ sz d ≤ 1000000 ∧ ∀ H', Adv [] H H' → Q (.bl true) H'
theorem ok_law_same (A : All K mg w) : FnOk P w K mg base CX0 1 A.law_same.f A.law_same.fd ["actual", "due"] spSame := by
  refine A.law_same.F.ok sc_law_same (fun vs H Q E h => ?_) (fun cdv Ar outer s H vs Q E hr h => ?_)
  · obtain ⟨v1, v2, d, rfl, _⟩ := h
    rfl
  · obtain ⟨v1, v2, d0, rfl, h1, h2, hz, q⟩ := h
    refine ⟨_, (pss_cons (ps_set (i := 2) sc_law_same.nd rfl (Or.inl rfl) (pe_lst (pa_cons (pe_tup (pa_cons (pv 0) (pa_cons (pv 1) pa_nil))) pa_nil)))
  (pss_cons (ps_for PassesOwn.never rfl (pi_range1 rfl A.T.range (pa_cons pe_int pa_nil)) (pg_name (i := 3) sc_law_same.nd rfl (Or.inl rfl))
    (pss_cons (ps_if (pt_cmpR op_eq (pe_callB call_len_seq (by rfl) A.T.len PySem.boot_len (pa_cons (pv 2) pa_nil)) pe_int (nomark _))
    (pss_one (ps_ret pe_bl))
    pss_nil)
  (pss_cons (ps_asg (pe_bm0 PySem.F.plainAttrs_list PySem.F.slot_list_pop PySem.F.type_list_pop mt_pop (pv 2)) (pg_tup rfl (pgs_cons (pg_name (i := 4) sc_law_same.nd rfl (Or.inr rfl)) (pgs_cons (pg_name (i := 5) sc_law_same.nd rfl (Or.inr rfl)) pgs_nil))))
  (pss_one (ps_if (PW.pt (pw_or (pt_val (pe_callB call_isi (by rfl) A.T.isinstance (by decide +kernel) (pa_cons (pv 5) (pa_cons (pe_bltn (v := .ty "tuple") (by rfl) A.T.tuple (by decide +kernel) rfl) pa_nil)))) (pw_or1 (pt_val (pe_callB call_isi (by rfl) A.T.isinstance (by decide +kernel) (pa_cons (pv 5) (pa_cons (pe_bltn (v := .ty "list") (by rfl) A.T.list (by decide +kernel) rfl) pa_nil)))))))
    (pss_cons (ps_if (PW.pt (pw_or (pt_cmpR op_ne (pe_callB call_isi (by rfl) A.T.isinstance (by decide +kernel) (pa_cons (pv 5) (pa_cons (pe_bltn (v := .ty "tuple") (by rfl) A.T.tuple (by decide +kernel) rfl) pa_nil))) (pe_callB call_isi (by rfl) A.T.isinstance (by decide +kernel) (pa_cons (pv 4) (pa_cons (pe_bltn (v := .ty "tuple") (by rfl) A.T.tuple (by decide +kernel) rfl) pa_nil))) (nomark _)) (pw_or (pt_cmpR op_ne (pe_callB call_isi (by rfl) A.T.isinstance (by decide +kernel) (pa_cons (pv 5) (pa_cons (pe_bltn (v := .ty "list") (by rfl) A.T.list (by decide +kernel) rfl) pa_nil))) (pe_callB call_isi (by rfl) A.T.isinstance (by decide +kernel) (pa_cons (pv 4) (pa_cons (pe_bltn (v := .ty "list") (by rfl) A.T.list (by decide +kernel) rfl) pa_nil))) (nomark _)) (pw_or1 (pt_cmpR op_ne (pe_callB (call_or call_len_seq call_lenD) (by rfl) A.T.len PySem.boot_len (pa_cons (pv 4) pa_nil)) (pe_callB (call_or call_len_seq call_lenD) (by rfl) A.T.len PySem.boot_len (pa_cons (pv 5) pa_nil)) (nomark _))))))
    (pss_one (ps_ret pe_bl))
    pss_nil)
  (pss_one (ps_expr (pe_bm PySem.F.plainAttrs_list PySem.F.slot_list_extend PySem.F.type_list_extend mt_extend (pv 2) (pa_cons (pe_lc (own := [("at", 6)]) (g := (gName 6)) rfl sc_law_same.nd (pi_range1 rfl A.T.range (pa_cons (pe_callB (call_or call_len_seq call_lenD) (by rfl) A.T.len PySem.boot_len (pa_cons (pv 5) pa_nil)) pa_nil)) (blkOk_by (own := [("at", 6)]) (N := ["actual", "due", "left", "turn", "one", "other", "at", "key"]) (sc := defScope s_law_same) (by decide +kernel)) (fun _ _ _ _ _ => pg_name (i := 6) sc_law_same.nd rfl (Or.inl rfl)) (fun _ _ _ _ _ => pts_nil) (fun _ _ _ _ _ => (pe_tup (pa_cons (pe_ix (ix_any K rfl) (pv 4) (pv 6) (fun _ _ => rfl)) (pa_cons (pe_ix (ix_any K rfl) (pv 5) (pv 6) (fun _ _ => rfl)) pa_nil))))) pa_nil)))))
    (pss_one (ps_if (pt_val (pe_callB call_isi (by rfl) A.T.isinstance (by decide +kernel) (pa_cons (pv 5) (pa_cons (pe_bltn (v := .ty "dict") (by rfl) A.T.dict (by decide +kernel) rfl) pa_nil))))
    (pss_cons (ps_if (PW.pt (pw_or (pt_not (pt_val (pe_callB call_isi (by rfl) A.T.isinstance (by decide +kernel) (pa_cons (pv 4) (pa_cons (pe_bltn (v := .ty "dict") (by rfl) A.T.dict (by decide +kernel) rfl) pa_nil))))) (pw_or (pt_cmpR op_ne (pe_callB (call_or call_len_seq call_lenD) (by rfl) A.T.len PySem.boot_len (pa_cons (pv 4) pa_nil)) (pe_callB (call_or call_len_seq call_lenD) (by rfl) A.T.len PySem.boot_len (pa_cons (pv 5) pa_nil)) (nomark _)) (pw_or1 (pt_cmpR op_gt (pe_callB call_len_seq (by rfl) A.T.len PySem.boot_len (pa_cons (pe_lock (pe_lc (own := [("key", 7)]) (g := gName 7) rfl sc_law_same.nd (pi_keys (pv 5)) (blkOk_by (own := [("key", 7)]) (N := ["actual", "due", "left", "turn", "one", "other", "at", "key"]) (sc := defScope s_law_same) (by decide +kernel)) (fun _ _ _ _ _ => pg_name (i := 7) sc_law_same.nd rfl (Or.inl rfl)) (fun _ _ _ _ _ => pts_one pt_never) (fun _ _ _ _ _ => pe_never))) pa_nil)) pe_int (nomark _))))))
    (pss_one (ps_ret pe_bl))
    pss_nil)
  (pss_one (ps_expr (pe_bm PySem.F.plainAttrs_list PySem.F.slot_list_extend PySem.F.type_list_extend mt_extend (pv 2) (pa_cons (pe_lock (pe_lc (own := [("key", 7)]) (g := gName 7) rfl sc_law_same.nd (pi_keys (pv 5)) (blkOk_by (own := [("key", 7)]) (N := ["actual", "due", "left", "turn", "one", "other", "at", "key"]) (sc := defScope s_law_same) (by decide +kernel)) (fun _ _ _ _ _ => pg_name (i := 7) sc_law_same.nd rfl (Or.inl rfl)) (fun _ _ _ _ _ => pts_nil) (fun _ _ _ _ _ => pe_never))) pa_nil)))))
    (pss_one (ps_if (PW.pt (pw_or (pt_val (pe_callB call_isi (by rfl) A.T.isinstance (by decide +kernel) (pa_cons (pv 5) (pa_cons (pe_bltn (v := .ty "bool") (by rfl) A.T.bool (by decide +kernel) rfl) pa_nil)))) (pw_or1 (pt_val (pe_callB call_isi (by rfl) A.T.isinstance (by decide +kernel) (pa_cons (pv 5) (pa_cons (pe_bltn (v := .ty "str") (by rfl) A.T.str (by decide +kernel) rfl) pa_nil)))))))
    (pss_one (ps_if (PW.pt (pw_or (pt_cmpR op_ne (pe_callB call_isi (by rfl) A.T.isinstance (by decide +kernel) (pa_cons (pv 4) (pa_cons (pe_bltn (v := .ty "bool") (by rfl) A.T.bool (by decide +kernel) rfl) pa_nil))) (pe_callB call_isi (by rfl) A.T.isinstance (by decide +kernel) (pa_cons (pv 5) (pa_cons (pe_bltn (v := .ty "bool") (by rfl) A.T.bool (by decide +kernel) rfl) pa_nil))) (nomark _)) (pw_or (pt_cmpR op_ne (pe_callB call_isi (by rfl) A.T.isinstance (by decide +kernel) (pa_cons (pv 4) (pa_cons (pe_bltn (v := .ty "str") (by rfl) A.T.str (by decide +kernel) rfl) pa_nil))) (pe_callB call_isi (by rfl) A.T.isinstance (by decide +kernel) (pa_cons (pv 5) (pa_cons (pe_bltn (v := .ty "str") (by rfl) A.T.str (by decide +kernel) rfl) pa_nil))) (nomark _)) (pw_or1 (pt_cmpR op_ne (pv 4) (pv 5) (nomark _))))))
    (pss_one (ps_ret pe_bl))
    pss_nil))
    (pss_one (ps_if (pt_val (pe_callB call_isi (by rfl) A.T.isinstance (by decide +kernel) (pa_cons (pv 5) (pa_cons (pe_bltn (v := .ty "int") (by rfl) A.T.int (by decide +kernel) rfl) pa_nil))))
    (pss_one (ps_if (PW.pt (pw_or (pt_not (pt_val (pe_callB call_isi (by rfl) A.T.isinstance (by decide +kernel) (pa_cons (pv 4) (pa_cons (pe_bltn (v := .ty "int") (by rfl) A.T.int (by decide +kernel) rfl) pa_nil))))) (pw_or (pt_val (pe_callB call_isi (by rfl) A.T.isinstance (by decide +kernel) (pa_cons (pv 4) (pa_cons (pe_bltn (v := .ty "bool") (by rfl) A.T.bool (by decide +kernel) rfl) pa_nil)))) (pw_or1 (pt_cmpR op_ne (pv 4) (pv 5) (nomark _))))))
    (pss_one (ps_ret pe_bl))
    pss_nil))
    (pss_one (ps_if (pt_cmpR op_notN (pv 4) pe_non (nomark _))
    (pss_one (ps_ret pe_bl))
    pss_nil)))))))))))))
  (pss_one (ps_ret pe_bl)))), ?_⟩
    refine ⟨_, rfl, _, rfl, by show 2 ≤ sizeLine; decide, fun t nt => ⟨by show 1 ≤ sizeLine; decide, fun L nL => ?_⟩⟩
    have nL0 : H L = none := by
      by_cases e : L = t
      · rw [e]; exact nt
      · rw [upd_ne e] at nL; exact nL
    have ntL : t ≠ L := fun z => by rw [← z, upd_same] at nL; cases nL
    have aI : Adv [] H (upd (upd H t (.tup [v1, v2])) L (.lst [.ref t])) := (Adv.new nt).trans (Adv.new nL)
    refine ⟨2000000, rfl, by decide, by decide, for_range (lo := 0) (n := (2000000 : Int).toNat) (fun i σ' H' => ∃ (ds : List PyData) (vs : List V) (x3 x4 x5 : Option V), σ' = [some v1, some v2, some (.ref L), x3, x4, x5, none, none] ∧ Adv [] H H' ∧ H' L = some (.lst vs) ∧ IsDs [L] H' (ds.map prD) vs ∧ szL ds + i ≤ 1000000)
      ⟨[d0], [.ref t], none, none, none, rfl, aI, upd_same, ?_, ?_⟩ ?_ ?_⟩
    · have f1 := ((h1.fresh nL0).less (N := [L]) (by simp)).adv (aI.more (by simp))
      have f2 := ((h2.fresh nL0).less (N := [L]) (by simp)).adv (aI.more (by simp))
      exact IsDs.one (Is.tup (by rw [upd_ne ntL, upd_same]) (by simpa using ntL) (.cons f1 (IsDs.one f2)))
    · rw [szL_cons, szL_nil]
      omega
    · rintro i σ' H' hi ⟨ds, vs, x3, x4, x5, rfl, a', hL, hds, hsz⟩
      refine ⟨_, rfl, L, vs, rfl, .inl (SqL.of hL), rfl, _, rfl, ?_⟩
      rcases List.eq_nil_or_concat ds with rfl | ⟨ds', d, rfl⟩
      · have e0 : vs = [] := by unfold IsDs at hds; exact hds
        subst e0
        exact iteY rfl (q _ a')
      rw [List.concat_eq_append] at hds hsz
      rw [List.map_append] at hds
      obtain ⟨ws, v, rfl, hws, hv⟩ := IsDs.last (d := prD d) hds
      refine iteN (by simp; omega) ?_
      refine ⟨_, rfl, .inl ⟨rfl, _, SqL.of hL⟩, L, ws ++ [v], v, rfl, rfl, hL, by simp, ?_⟩
      rw [List.dropLast_concat]
      obtain ⟨tp, u1, u2, rfl, htp, hu1, hu2⟩ := hv.pair
      have aL : Adv [L] H' (upd H' L (.lst ws)) := Adv.set (by simp)
      have a2 : Adv [] H (upd H' L (.lst ws)) := a'.mut nL0
      have htp2 := htp.adv aL
      replace hu1 := hu1.adv aL
      replace hu2 := hu2.adv aL
      replace hws := hws.adv aL
      have hL2 : (upd H' L (.lst ws)) L = some (.lst ws) := upd_same
      have hwl := hws.len
      rw [szL_app, szL_cons, szL_nil] at hsz
      have szle : ∀ l : List PyData, l.length ≤ szL l := fun l => by
        induction l with
        | nil => exact Nat.zero_le _
        | cons c r ih =>
          rw [szL_cons, List.length_cons]
          have := sz_pos c
          omega
      have hdl := szle ds'
      rw [List.length_map] at hwl
      generalize upd H' L (.lst ws) = H2 at *
      have fin : ∀ (x3 x4 x5 : Option V) (H3 : Hp), Adv [] H2 H3 → ∃ (ds : List PyData) (vs : List V) (y3 y4 y5 : Option V), [some v1, some v2, some (.ref L), x3, x4, x5, none, none] = [some v1, some v2, some (.ref L), y3, y4, y5, none, none] ∧ Adv [] H H3 ∧ H3 L = some (.lst vs) ∧ IsDs [L] H3 (ds.map prD) vs ∧ szL ds + (i + 1) ≤ 1000000 := fun x3 x4 x5 H3 a3 =>
        ⟨ds', ws, x3, x4, x5, rfl, a2.trans a3, a3.same _ _ hL2, hws.adv (a3.more (by simp)), by have := sz_pos d; omega⟩
      refine ⟨tp, [u1, u2], rfl, htp2.sq A.W, rfl, _, _, rfl, _, _, rfl, rfl, ?_⟩
      cases d with
      | list cs =>
        refine ⟨_, rfl, _, _, _, _, _, rfl, .ty _, hu2.ty A.W, k_tuple _, _, rfl, ?_⟩
        refine iteN (by simp [kitD, tyN]) ?_
        refine ⟨_, rfl, _, _, _, _, _, rfl, .ty _, hu2.ty A.W, k_list _, _, rfl, iteY (by simp [kitD, tyN]) ?_⟩
        obtain ⟨b1, r1, rfl, nb1, hb1, hr1⟩ := hu1.lstE
        obtain ⟨b2, r2, rfl, nb2, hb2, hr2⟩ := hu2.lstE
        have hl1 := hr1.len
        have hl2 := hr2.len
        have szc : sz (.list cs) = 1 + szL cs := by rw [sz]
        have hcl := szle cs
        refine ⟨_, rfl, _, _, _, _, _, rfl, .ty _, hu2.ty A.W, k_tuple _, _, rfl, _, _, _, _, _, rfl, .ty _, hu1.ty A.W, k_tuple _, rfl, _, rfl, iteN (by simp) ?_⟩
        refine ⟨_, rfl, _, _, _, _, _, rfl, .ty _, hu2.ty A.W, k_list _, _, rfl, _, _, _, _, _, rfl, .ty _, hu1.ty A.W, k_list _, rfl, _, rfl, iteN (by simp) ?_⟩
        refine ⟨_, rfl, .inl ⟨b1, r1, rfl, .inl (SqL.of hb1), _, rfl, .inl ⟨b2, r2, rfl, .inl (SqL.of hb2), rfl, _, rfl, iteN (by simp [hl1, hl2]) ?_⟩⟩⟩
        refine ⟨_, rfl, .inl ⟨rfl, _, SqL.of hL2⟩, _, rfl, .inl ⟨b2, r2, rfl, .inl (SqL.of hb2), (r2.length : Int), rfl, by omega, by omega, fun D nD => ?_⟩⟩
        refine lc_dataR (M := [L]) (n := (r2.length : Int).toNat) (cs.map prD) (by simp [hl2]) nD (by simp [hl2]; omega) ?_ ?_
        · intro j dj H3 acc R hj a3 hD k
          have hjl : j < cs.length := by
            have := (List.getElem?_eq_some_iff.mp hj).1
            simpa using this
          have e0 : (0 : Int) + (j : Nat) = (j : Int) := by omega
          rw [e0]
          obtain ⟨w1, hw1, iw1⟩ := hr1.get (List.getElem?_eq_getElem hjl)
          obtain ⟨w2, hw2, iw2⟩ := hr2.get (List.getElem?_eq_getElem hjl)
          have ed : prD cs[j] = dj := by simpa [hjl] using hj
          refine ⟨rfl, _, rfl, _, rfl, .inl ⟨b1, r1, (j : Int), w1, rfl, rfl, SqL.of (a3.same _ _ hb1), atI_nat hw1, _, rfl, _, rfl, .inl ⟨b2, r2, (j : Int), w2, rfl, rfl, SqL.of (a3.same _ _ hb2), atI_nat hw2, by show 2 ≤ sizeLine; decide, fun T nT => ?_⟩⟩⟩
          have nDT : T ≠ D := (ne_of_none hD nT).symm
          have nLT : T ≠ L := (ne_of_none (a3.same _ _ hL2) nT).symm
          refine k _ _ (by rw [upd_ne nDT.symm]; exact hD) (Adv.new nT) ?_
          rw [← ed]
          have aa : Adv [D, L] H2 (upd H3 T (.tup [w1, w2])) := (a3.more (by simp)).trans (Adv.new nT)
          have g1 : Is [D, L] H2 cs[j] w1 := iw1.fresh nD
          have g2 : Is [D, L] H2 cs[j] w2 := iw2.fresh nD
          exact Is.tup upd_same (by simp [nDT, nLT]) (.cons (g1.adv aa) (IsDs.one (g2.adv aa)))
        · intro H3 acc a3 hD hacc
          have hal := hacc.len
          rw [List.length_map] at hal
          have hL3 := a3.same _ _ hL2
          have nDL : D ≠ L := (ne_of_none hL2 nD).symm
          refine ⟨L, D, ws, acc, rfl, rfl, hL3, hD, by rw [sizeLine_eq]; omega, ?_⟩
          refine ⟨ds' ++ cs, ws ++ acc, _, _, _, rfl, (a2.trans a3).mut nL0, upd_same, ?_, ?_⟩
          · rw [List.map_append]
            exact ((hws.adv (a3.more (by simp))).adv (Adv.set (by simp))).app ((hacc.less (by simp)).adv (Adv.set (by simp)))
          · rw [szL_app]
            omega
      | tuple cs =>
        refine ⟨_, rfl, _, _, _, _, _, rfl, .ty _, hu2.ty A.W, k_tuple _, _, rfl, ?_⟩
        refine iteY (by simp [kitD, tyN]) (iteY rfl ?_)
        obtain ⟨b1, r1, rfl, hb1, hr1⟩ := hu1.tupE
        obtain ⟨b2, r2, rfl, hb2, hr2⟩ := hu2.tupE
        have hl1 := hr1.len
        have hl2 := hr2.len
        have szc : sz (.tuple cs) = 1 + szL cs := by rw [sz]
        have hcl := szle cs
        refine ⟨_, rfl, _, _, _, _, _, rfl, .ty _, hu2.ty A.W, k_tuple _, _, rfl, _, _, _, _, _, rfl, .ty _, hu1.ty A.W, k_tuple _, rfl, _, rfl, iteN (by simp) ?_⟩
        refine ⟨_, rfl, _, _, _, _, _, rfl, .ty _, hu2.ty A.W, k_list _, _, rfl, _, _, _, _, _, rfl, .ty _, hu1.ty A.W, k_list _, rfl, _, rfl, iteN (by simp) ?_⟩
        refine ⟨_, rfl, .inl ⟨b1, r1, rfl, .inr (hb1.sq A.W), _, rfl, .inl ⟨b2, r2, rfl, .inr (hb2.sq A.W), rfl, _, rfl, iteN (by simp [hl1, hl2]) ?_⟩⟩⟩
        refine ⟨_, rfl, .inl ⟨rfl, _, SqL.of hL2⟩, _, rfl, .inl ⟨b2, r2, rfl, .inr (hb2.sq A.W), (r2.length : Int), rfl, by omega, by omega, fun D nD => ?_⟩⟩
        refine lc_dataR (M := [L]) (n := (r2.length : Int).toNat) (cs.map prD) (by simp [hl2]) nD (by simp [hl2]; omega) ?_ ?_
        · intro j dj H3 acc R hj a3 hD k
          have hjl : j < cs.length := by
            have := (List.getElem?_eq_some_iff.mp hj).1
            simpa using this
          have e0 : (0 : Int) + (j : Nat) = (j : Int) := by omega
          rw [e0]
          obtain ⟨w1, hw1, iw1⟩ := hr1.get (List.getElem?_eq_getElem hjl)
          obtain ⟨w2, hw2, iw2⟩ := hr2.get (List.getElem?_eq_getElem hjl)
          have ed : prD cs[j] = dj := by simpa [hjl] using hj
          refine ⟨rfl, _, rfl, _, rfl, .inr ⟨b1, r1, (j : Int), w1, rfl, rfl, (hb1.adv (Adv.nil a3)).sq A.W, atI_nat hw1, _, rfl, _, rfl, .inr ⟨b2, r2, (j : Int), w2, rfl, rfl, (hb2.adv (Adv.nil a3)).sq A.W, atI_nat hw2, by show 2 ≤ sizeLine; decide, fun T nT => ?_⟩⟩⟩
          have nDT : T ≠ D := (ne_of_none hD nT).symm
          have nLT : T ≠ L := (ne_of_none (a3.same _ _ hL2) nT).symm
          refine k _ _ (by rw [upd_ne nDT.symm]; exact hD) (Adv.new nT) ?_
          rw [← ed]
          have aa : Adv [D, L] H2 (upd H3 T (.tup [w1, w2])) := (a3.more (by simp)).trans (Adv.new nT)
          have g1 : Is [D, L] H2 cs[j] w1 := iw1.fresh nD
          have g2 : Is [D, L] H2 cs[j] w2 := iw2.fresh nD
          exact Is.tup upd_same (by simp [nDT, nLT]) (.cons (g1.adv aa) (IsDs.one (g2.adv aa)))
        · intro H3 acc a3 hD hacc
          have hal := hacc.len
          rw [List.length_map] at hal
          have hL3 := a3.same _ _ hL2
          have nDL : D ≠ L := (ne_of_none hL2 nD).symm
          refine ⟨L, D, ws, acc, rfl, rfl, hL3, hD, by rw [sizeLine_eq]; omega, ?_⟩
          refine ⟨ds' ++ cs, ws ++ acc, _, _, _, rfl, (a2.trans a3).mut nL0, upd_same, ?_, ?_⟩
          · rw [List.map_append]
            exact ((hws.adv (a3.more (by simp))).adv (Adv.set (by simp))).app ((hacc.less (by simp)).adv (Adv.set (by simp)))
          · rw [szL_app]
            omega
      | dict kvs =>
        refine ⟨_, rfl, _, _, _, _, _, rfl, .ty _, hu2.ty A.W, k_tuple _, _, rfl, iteN (by simp [kitD, tyN]) ?_⟩
        refine ⟨_, rfl, _, _, _, _, _, rfl, .ty _, hu2.ty A.W, k_list _, _, rfl, iteN (by simp [kitD, tyN]) ?_⟩
        refine ⟨_, rfl, _, _, _, _, _, rfl, .ty _, hu2.ty A.W, k_dict _, _, rfl, iteY (by simp [kitD, tyN]) ?_⟩
        obtain ⟨rfl, b1, rfl, nb1, hb1⟩ := hu1.dicE
        obtain ⟨_, b2, rfl, nb2, hb2⟩ := hu2.dicE
        refine ⟨_, rfl, _, _, _, _, _, rfl, .ty _, hu1.ty A.W, k_dict _, _, rfl, iteN (by simp [kitD, tyN]) ?_⟩
        refine ⟨_, rfl, .inr ⟨b1, [], rfl, hb1, _, rfl, .inr ⟨b2, [], rfl, hb2, rfl, _, rfl, iteN (by simp) ?_⟩⟩⟩
        refine ⟨b2, .dK [], hb2, trivial, fun od => ?_⟩
        refine ⟨_, rfl, b2, od, rfl, .inl ⟨[], upd_same, fun D nD => ?_⟩⟩
        have nDb : b2 ≠ D := fun z => by rw [← z, upd_same] at nD; cases nD
        have nD2 : H2 D = none := by rw [upd_ne nDb.symm] at nD; exact nD
        refine lc_keys0 (d := b2) (o := od) upd_same nD ?_
        refine ⟨by rw [upd_ne nDb]; exact upd_same, ?_⟩
        have a3 : Adv [] H2 (upd (upd (upd H2 b2 (.frz od (.dK []))) D (.lst [])) b2 (.dK [])) := fun b o _ e => by
          by_cases eb : b = b2
          · rw [eb, upd_same, ← hb2, ← eb, e]
          · rw [upd_ne eb, upd_ne (ne_of_none e nD2), upd_ne eb, e]
        have hD3 : (upd (upd (upd H2 b2 (.frz od (.dK []))) D (.lst [])) b2 (.dK [])) D = some (.lst []) := by rw [upd_ne nDb.symm, upd_same]
        refine ⟨D, [], rfl, .inl (SqL.of hD3), _, _, rfl, rfl, _, rfl, iteN (by decide) ?_⟩
        generalize (upd (upd (upd H2 b2 (.frz od (.dK []))) D (.lst [])) b2 (.dK [])) = H3 at *
        have hb3 := a3.same _ _ hb2
        have hL3 := a3.same _ _ hL2
        refine ⟨_, rfl, .inl ⟨rfl, _, SqL.of hL3⟩, b2, .dK [], hb3, trivial, fun od => ?_⟩
        refine ⟨_, rfl, b2, od, rfl, .inl ⟨[], upd_same, fun D nD => ?_⟩⟩
        have nDb : b2 ≠ D := fun z => by rw [← z, upd_same] at nD; cases nD
        have nD3 : H3 D = none := by rw [upd_ne nDb.symm] at nD; exact nD
        refine lc_keys0 (d := b2) (o := od) upd_same nD ?_
        refine ⟨by rw [upd_ne nDb]; exact upd_same, ?_⟩
        have a4 : Adv [] H3 (upd (upd (upd H3 b2 (.frz od (.dK []))) D (.lst [])) b2 (.dK [])) := fun b o _ e => by
          by_cases eb : b = b2
          · rw [eb, upd_same, ← hb3, ← eb, e]
          · rw [upd_ne eb, upd_ne (ne_of_none e nD3), upd_ne eb, e]
        have hD4 : (upd (upd (upd H3 b2 (.frz od (.dK []))) D (.lst [])) b2 (.dK [])) D = some (.lst []) := by rw [upd_ne nDb.symm, upd_same]
        generalize (upd (upd (upd H3 b2 (.frz od (.dK []))) D (.lst [])) b2 (.dK [])) = H4 at *
        have hL4 := a4.same _ _ hL3
        refine ⟨L, D, ws, [], rfl, rfl, hL4, hD4, by rw [sizeLine_eq, List.length_nil]; omega, ?_⟩
        refine ⟨ds', ws, _, _, _, rfl, ((a2.trans a3).trans a4).mut nL0, by rw [upd_same, List.append_nil], ?_, by have := sz_pos (.dict []); omega⟩
        exact ((hws.adv (a3.more (by simp))).adv (a4.more (by simp))).adv (Adv.set (by simp))
      | bool b =>
        refine ⟨_, rfl, _, _, _, _, _, rfl, .ty _, hu2.ty A.W, k_tuple _, _, rfl, iteN (by simp [kitD, tyN]) ?_⟩
        refine ⟨_, rfl, _, _, _, _, _, rfl, .ty _, hu2.ty A.W, k_list _, _, rfl, iteN (by simp [kitD, tyN]) ?_⟩
        refine ⟨_, rfl, _, _, _, _, _, rfl, .ty _, hu2.ty A.W, k_dict _, _, rfl, iteN (by simp [kitD, tyN]) ?_⟩
        refine ⟨_, rfl, _, _, _, _, _, rfl, .ty _, hu2.ty A.W, k_bool _, _, rfl, iteY (by simp [kitD, tyN]) (iteY rfl ?_)⟩
        refine ⟨_, rfl, _, _, _, _, _, rfl, .ty _, hu1.ty A.W, k_bool _, _, rfl, _, _, _, _, _, rfl, .ty _, hu2.ty A.W, k_bool _, rfl, _, rfl, iteN (by simp) ?_⟩
        refine ⟨_, rfl, _, _, _, _, _, rfl, .ty _, hu1.ty A.W, k_str _, _, rfl, _, _, _, _, _, rfl, .ty _, hu2.ty A.W, k_str _, rfl, _, rfl, iteN (by simp) ?_⟩
        cases hu1.blE
        cases hu2.blE
        exact ⟨_, rfl, _, rfl, rfl, _, rfl, iteN (by simp) (fin _ _ _ _ (Adv.refl _ _))⟩
      | str x =>
        refine ⟨_, rfl, _, _, _, _, _, rfl, .ty _, hu2.ty A.W, k_tuple _, _, rfl, iteN (by simp [kitD, tyN]) ?_⟩
        refine ⟨_, rfl, _, _, _, _, _, rfl, .ty _, hu2.ty A.W, k_list _, _, rfl, iteN (by simp [kitD, tyN]) ?_⟩
        refine ⟨_, rfl, _, _, _, _, _, rfl, .ty _, hu2.ty A.W, k_dict _, _, rfl, iteN (by simp [kitD, tyN]) ?_⟩
        refine ⟨_, rfl, _, _, _, _, _, rfl, .ty _, hu2.ty A.W, k_bool _, _, rfl, iteN (by simp [kitD, tyN]) ?_⟩
        refine ⟨_, rfl, _, _, _, _, _, rfl, .ty _, hu2.ty A.W, k_str _, _, rfl, iteY (by simp [kitD, tyN]) ?_⟩
        refine ⟨_, rfl, _, _, _, _, _, rfl, .ty _, hu1.ty A.W, k_bool _, _, rfl, _, _, _, _, _, rfl, .ty _, hu2.ty A.W, k_bool _, rfl, _, rfl, iteN (by simp) ?_⟩
        refine ⟨_, rfl, _, _, _, _, _, rfl, .ty _, hu1.ty A.W, k_str _, _, rfl, _, _, _, _, _, rfl, .ty _, hu2.ty A.W, k_str _, rfl, _, rfl, iteN (by simp) ?_⟩
        cases hu1.strE
        cases hu2.strE
        exact ⟨_, rfl, _, rfl, rfl, _, rfl, iteN (by simp) (fin _ _ _ _ (Adv.refl _ _))⟩
      | int n =>
        refine ⟨_, rfl, _, _, _, _, _, rfl, .ty _, hu2.ty A.W, k_tuple _, _, rfl, iteN (by simp [kitD, tyN]) ?_⟩
        refine ⟨_, rfl, _, _, _, _, _, rfl, .ty _, hu2.ty A.W, k_list _, _, rfl, iteN (by simp [kitD, tyN]) ?_⟩
        refine ⟨_, rfl, _, _, _, _, _, rfl, .ty _, hu2.ty A.W, k_dict _, _, rfl, iteN (by simp [kitD, tyN]) ?_⟩
        refine ⟨_, rfl, _, _, _, _, _, rfl, .ty _, hu2.ty A.W, k_bool _, _, rfl, iteN (by simp [kitD, tyN]) ?_⟩
        refine ⟨_, rfl, _, _, _, _, _, rfl, .ty _, hu2.ty A.W, k_str _, _, rfl, iteN (by simp [kitD, tyN]) ?_⟩
        refine ⟨_, rfl, _, _, _, _, _, rfl, .ty _, hu2.ty A.W, k_int _, _, rfl, iteY (by simp [kitD, tyN]) ?_⟩
        refine ⟨_, rfl, _, _, _, _, _, rfl, .ty _, hu1.ty A.W, k_int _, _, rfl, iteN (by simp [kitD, tyN]) ?_⟩
        refine ⟨_, rfl, _, _, _, _, _, rfl, .ty _, hu1.ty A.W, k_bool _, _, rfl, iteN (by simp [kitD, tyN]) ?_⟩
        cases hu1.intE
        cases hu2.intE
        exact ⟨_, rfl, _, rfl, rfl, _, rfl, iteN (by simp) (fin _ _ _ _ (Adv.refl _ _))⟩
      | none =>
        refine ⟨_, rfl, _, _, _, _, _, rfl, .ty _, hu2.ty A.W, k_tuple _, _, rfl, iteN (by simp [kitD, tyN]) ?_⟩
        refine ⟨_, rfl, _, _, _, _, _, rfl, .ty _, hu2.ty A.W, k_list _, _, rfl, iteN (by simp [kitD, tyN]) ?_⟩
        refine ⟨_, rfl, _, _, _, _, _, rfl, .ty _, hu2.ty A.W, k_dict _, _, rfl, iteN (by simp [kitD, tyN]) ?_⟩
        refine ⟨_, rfl, _, _, _, _, _, rfl, .ty _, hu2.ty A.W, k_bool _, _, rfl, iteN (by simp [kitD, tyN]) ?_⟩
        refine ⟨_, rfl, _, _, _, _, _, rfl, .ty _, hu2.ty A.W, k_str _, _, rfl, iteN (by simp [kitD, tyN]) ?_⟩
        refine ⟨_, rfl, _, _, _, _, _, rfl, .ty _, hu2.ty A.W, k_int _, _, rfl, iteN (by simp [kitD, tyN]) ?_⟩
        cases hu1.nonE
        cases hu2.nonE
        exact ⟨_, rfl, rfl, _, rfl, iteN (by simp) (fin _ _ _ _ (Adv.refl _ _))⟩
    · rintro σ' H' ⟨ds, vs, x3, x4, x5, rfl, a', hL, hds, hsz⟩
      have : (2000000 : Int).toNat = 2000000 := rfl
      omega
end

set_option Elab.async false
set_option linter.all false
set_option maxRecDepth 100000
set_option maxHeartbeats 4000000
open PySem PySem.Spec PyProof.Rows L2 LL
open C8 (pss_cut)
section
variable [KW]
variable {P : Program} {w : World} {K : PySem.W.Frag} {mg : Str → Option Value} {base : Heap}
def spCopy (n : Nat) : Sp := fun vs H Q _ => ∃ (v : V) (d : PyData) (M : List Addr), vs = [v] ∧ (∀ b ∈ M, H b ≠ none) ∧ Is M H d v ∧ dep d ≤ n ∧ sz d ≤ 1000000 ∧ ∀ v' H', Is M H' d v' → Adv [] H H' → Q v' H'
theorem szL_len : ∀ l : List PyData, l.length ≤ szL l
  | [] => Nat.zero_le _
  | c :: r => by
    rw [szL_cons, List.length_cons]
    have := sz_pos c
    have := szL_len r
    omega
theorem sz_mem : ∀ {ds : List PyData} {d : PyData}, d ∈ ds → sz d ≤ szL ds
  | c :: ds, d, h => by
    rw [szL_cons]
    rcases List.mem_cons.mp h with e | h
    · rw [e]; omega
    · have := sz_mem h
      omega
theorem copy_0 (A : All K mg w) : FnOk P w K mg base CX0 1 A.law_copy.f A.law_copy.fd ["value"] (spCopy 0) := by
  refine A.law_copy.F.ok sc_law_copy (fun vs H Q E h => ?_) (fun cdv Ar outer s H vs Q E hr h => ?_)
  · obtain ⟨v, d, M, rfl, _⟩ := h
    rfl
  · obtain ⟨v, d, M, rfl, hM, hv, hn, hz, q⟩ := h
    refine ⟨_, (pss_cons (ps_if (pt_val (pe_callB call_isi (by rfl) A.T.isinstance (by decide +kernel) (pa_cons (pv 0) (pa_cons (pe_bltn (v := .ty "dict") (by rfl) A.T.dict (by decide +kernel) rfl) pa_nil))))
    (pss_cons (ps_set (i := 1) sc_law_copy.nd rfl (Or.inl rfl) pe_dnewK)
  (pss_cons (ps_lock (ps_for PassesOwn.never rfl (pi_keys (pv 0)) (pg_name (i := 2) sc_law_copy.nd rfl (Or.inl rfl)) pss_never))
  (pss_one (ps_ret (pv 1)))))
    pss_nil)
  (pss_cons (ps_if (pt_val (pe_callB call_isi (by rfl) A.T.isinstance (by decide +kernel) (pa_cons (pv 0) (pa_cons (pe_bltn (v := .ty "list") (by rfl) A.T.list (by decide +kernel) rfl) pa_nil))))
    (pss_one (ps_ret (pe_lc (own := [("item", 3)]) (g := gName 3) rfl sc_law_copy.nd (pi_list (pv 0)) (blkOk_by (own := [("item", 3)]) (N := ["value", "found", "key", "item"]) (sc := defScope s_law_copy) (by decide +kernel)) (fun _ _ _ _ _ => pg_name (i := 3) sc_law_copy.nd rfl (Or.inl rfl)) (fun _ _ _ _ _ => pts_nil) (fun _ _ _ _ _ => pe_never))))
    pss_nil)
  (pss_cons (ps_if (pt_val (pe_callB call_isi (by rfl) A.T.isinstance (by decide +kernel) (pa_cons (pv 0) (pa_cons (pe_bltn (v := .ty "tuple") (by rfl) A.T.tuple (by decide +kernel) rfl) pa_nil))))
    (pss_one (ps_ret (pe_callTy call_tuple_of (by rfl) A.T.tuple (by decide +kernel) (pa_cons (pe_lc (own := [("item", 3)]) (g := gName 3) rfl sc_law_copy.nd (pi_tup (pv 0)) (blkOk_by (own := [("item", 3)]) (N := ["value", "found", "key", "item"]) (sc := defScope s_law_copy) (by decide +kernel)) (fun _ _ _ _ _ => pg_name (i := 3) sc_law_copy.nd rfl (Or.inl rfl)) (fun _ _ _ _ _ => pts_nil) (fun _ _ _ _ _ => pe_never)) pa_nil))))
    pss_nil)
  (pss_one (ps_ret (pv 0)))))), ?_⟩
    refine ⟨_, rfl, _, _, _, _, _, rfl, .ty _, hv.ty A.W, k_dict _, _, rfl, ?_⟩
    cases d with
    | dict kvs =>
      refine iteY (by simp [kitD, tyN]) ?_
      obtain ⟨rfl, b, rfl, nb, hb⟩ := hv.dicE
      intro f nf
      have nbf : b ≠ f := ne_of_none hb nf
      refine ⟨b, .dK [], by rw [upd_ne nbf]; exact hb, trivial, fun od => ?_⟩
      refine ⟨_, rfl, b, od, rfl, .inl ⟨[], upd_same, ?_⟩⟩
      refine for_keys0 (d := b) (o := od) upd_same ?_
      refine ⟨upd_same, ?_⟩
      have hf : (upd (upd (upd H f (.dK [])) b (.frz od (.dK []))) b (.dK [])) f = some (.dK []) := by rw [upd_ne nbf.symm, upd_ne nbf.symm, upd_same]
      refine ⟨_, rfl, q _ _ (Is.dic hf (not_mem_new hM nf)) fun c o _ e => ?_⟩
      by_cases ec : c = b
      · rw [ec, upd_same, ← hb, ← ec, e]
      · rw [upd_ne ec, upd_ne ec, upd_ne (ne_of_none e nf), e]
    | list ds =>
      refine iteN (by simp [kitD, tyN]) ?_
      refine ⟨_, rfl, _, _, _, _, _, rfl, .ty _, hv.ty A.W, k_list _, _, rfl, iteY (by simp [kitD, tyN]) ?_⟩
      obtain ⟨b, r, rfl, nb, hb, hr1⟩ := hv.lstE
      have hl := hr1.len
      have hdd : dep (.list ds) = 1 + depL ds := by rw [dep]
      have hss : sz (.list ds) = 1 + szL ds := by rw [sz]
      have hlen := szL_len ds
      omega
    | tuple ds =>
      refine iteN (by simp [kitD, tyN]) ?_
      refine ⟨_, rfl, _, _, _, _, _, rfl, .ty _, hv.ty A.W, k_list _, _, rfl, iteN (by simp [kitD, tyN]) ?_⟩
      refine ⟨_, rfl, _, _, _, _, _, rfl, .ty _, hv.ty A.W, k_tuple _, _, rfl, iteY (by simp [kitD, tyN]) ?_⟩
      obtain ⟨b, r, rfl, hb, hr1⟩ := hv.tupE
      have hl := hr1.len
      have hdd : dep (.tuple ds) = 1 + depL ds := by rw [dep]
      have hss : sz (.tuple ds) = 1 + szL ds := by rw [sz]
      have hlen := szL_len ds
      omega
    | none =>
      refine iteN (by simp [kitD, tyN]) ?_
      refine ⟨_, rfl, _, _, _, _, _, rfl, .ty _, hv.ty A.W, k_list _, _, rfl, iteN (by simp [kitD, tyN]) ?_⟩
      refine ⟨_, rfl, _, _, _, _, _, rfl, .ty _, hv.ty A.W, k_tuple _, _, rfl, iteN (by simp [kitD, tyN]) ?_⟩
      exact ⟨_, rfl, q _ _ hv (Adv.refl _ _)⟩
    | bool _ =>
      refine iteN (by simp [kitD, tyN]) ?_
      refine ⟨_, rfl, _, _, _, _, _, rfl, .ty _, hv.ty A.W, k_list _, _, rfl, iteN (by simp [kitD, tyN]) ?_⟩
      refine ⟨_, rfl, _, _, _, _, _, rfl, .ty _, hv.ty A.W, k_tuple _, _, rfl, iteN (by simp [kitD, tyN]) ?_⟩
      exact ⟨_, rfl, q _ _ hv (Adv.refl _ _)⟩
    | int _ =>
      refine iteN (by simp [kitD, tyN]) ?_
      refine ⟨_, rfl, _, _, _, _, _, rfl, .ty _, hv.ty A.W, k_list _, _, rfl, iteN (by simp [kitD, tyN]) ?_⟩
      refine ⟨_, rfl, _, _, _, _, _, rfl, .ty _, hv.ty A.W, k_tuple _, _, rfl, iteN (by simp [kitD, tyN]) ?_⟩
      exact ⟨_, rfl, q _ _ hv (Adv.refl _ _)⟩
    | str _ =>
      refine iteN (by simp [kitD, tyN]) ?_
      refine ⟨_, rfl, _, _, _, _, _, rfl, .ty _, hv.ty A.W, k_list _, _, rfl, iteN (by simp [kitD, tyN]) ?_⟩
      refine ⟨_, rfl, _, _, _, _, _, rfl, .ty _, hv.ty A.W, k_tuple _, _, rfl, iteN (by simp [kitD, tyN]) ?_⟩
      exact ⟨_, rfl, q _ _ hv (Adv.refl _ _)⟩
theorem copy_s (A : All K mg w) {n : Nat} (G : FnOk P w K mg base CX0 (n + 1) A.law_copy.f A.law_copy.fd ["value"] (spCopy n)) : FnOk P w K mg base CX0 (n + 2) A.law_copy.f A.law_copy.fd ["value"] (spCopy (n + 1)) := by
  refine A.law_copy.F.ok sc_law_copy (fun vs H Q E h => ?_) (fun cdv Ar outer s H vs Q E hr h => ?_)
  · obtain ⟨v, d, M, rfl, _⟩ := h
    rfl
  · obtain ⟨v, d, M, rfl, hM, hv, hn, hz, q⟩ := h
    refine ⟨_, (pss_cons (ps_if (pt_val (pe_callB call_isi (by rfl) A.T.isinstance (by decide +kernel) (pa_cons (pv 0) (pa_cons (pe_bltn (v := .ty "dict") (by rfl) A.T.dict (by decide +kernel) rfl) pa_nil))))
    (pss_cons (ps_set (i := 1) sc_law_copy.nd rfl (Or.inl rfl) pe_dnewK)
  (pss_cons (ps_lock (ps_for PassesOwn.never rfl (pi_keys (pv 0)) (pg_name (i := 2) sc_law_copy.nd rfl (Or.inl rfl)) pss_never))
  (pss_one (ps_ret (pv 1)))))
    pss_nil)
  (pss_cons (ps_if (pt_val (pe_callB call_isi (by rfl) A.T.isinstance (by decide +kernel) (pa_cons (pv 0) (pa_cons (pe_bltn (v := .ty "list") (by rfl) A.T.list (by decide +kernel) rfl) pa_nil))))
    (pss_one (ps_ret (pe_lc (own := [("item", 3)]) (g := gName 3) rfl sc_law_copy.nd (pi_list (pv 0)) (blkOk_by (own := [("item", 3)]) (N := ["value", "found", "key", "item"]) (sc := defScope s_law_copy) (by decide +kernel)) (fun _ _ _ _ _ => pg_name (i := 3) sc_law_copy.nd rfl (Or.inl rfl)) (fun _ _ _ _ _ => pts_nil) (fun _ _ _ _ _ => (pe_call G hr rfl A.law_copy.m A.law_copy.F.kp A.law_copy.b .nil pass0 (pa_cons (pv 3) pa_nil))))))
    pss_nil)
  (pss_cons (ps_if (pt_val (pe_callB call_isi (by rfl) A.T.isinstance (by decide +kernel) (pa_cons (pv 0) (pa_cons (pe_bltn (v := .ty "tuple") (by rfl) A.T.tuple (by decide +kernel) rfl) pa_nil))))
    (pss_one (ps_ret (pe_callTy call_tuple_of (by rfl) A.T.tuple (by decide +kernel) (pa_cons (pe_lc (own := [("item", 3)]) (g := gName 3) rfl sc_law_copy.nd (pi_tup (pv 0)) (blkOk_by (own := [("item", 3)]) (N := ["value", "found", "key", "item"]) (sc := defScope s_law_copy) (by decide +kernel)) (fun _ _ _ _ _ => pg_name (i := 3) sc_law_copy.nd rfl (Or.inl rfl)) (fun _ _ _ _ _ => pts_nil) (fun _ _ _ _ _ => (pe_call G hr rfl A.law_copy.m A.law_copy.F.kp A.law_copy.b .nil pass0 (pa_cons (pv 3) pa_nil)))) pa_nil))))
    pss_nil)
  (pss_one (ps_ret (pv 0)))))), ?_⟩
    refine ⟨_, rfl, _, _, _, _, _, rfl, .ty _, hv.ty A.W, k_dict _, _, rfl, ?_⟩
    cases d with
    | dict kvs =>
      refine iteY (by simp [kitD, tyN]) ?_
      obtain ⟨rfl, b, rfl, nb, hb⟩ := hv.dicE
      intro f nf
      have nbf : b ≠ f := ne_of_none hb nf
      refine ⟨b, .dK [], by rw [upd_ne nbf]; exact hb, trivial, fun od => ?_⟩
      refine ⟨_, rfl, b, od, rfl, .inl ⟨[], upd_same, ?_⟩⟩
      refine for_keys0 (d := b) (o := od) upd_same ?_
      refine ⟨upd_same, ?_⟩
      have hf : (upd (upd (upd H f (.dK [])) b (.frz od (.dK []))) b (.dK [])) f = some (.dK []) := by rw [upd_ne nbf.symm, upd_ne nbf.symm, upd_same]
      refine ⟨_, rfl, q _ _ (Is.dic hf (not_mem_new hM nf)) fun c o _ e => ?_⟩
      by_cases ec : c = b
      · rw [ec, upd_same, ← hb, ← ec, e]
      · rw [upd_ne ec, upd_ne ec, upd_ne (ne_of_none e nf), e]
    | list ds =>
      refine iteN (by simp [kitD, tyN]) ?_
      refine ⟨_, rfl, _, _, _, _, _, rfl, .ty _, hv.ty A.W, k_list _, _, rfl, iteY (by simp [kitD, tyN]) ?_⟩
      obtain ⟨b, r, rfl, nb, hb, hr1⟩ := hv.lstE
      have hl := hr1.len
      have hdd : dep (.list ds) = 1 + depL ds := by rw [dep]
      have hss : sz (.list ds) = 1 + szL ds := by rw [sz]
      have hlen := szL_len ds
      refine ⟨_, rfl, b, rfl, ⟨_, SqL.of hb⟩, fun D nD => ?_⟩
      refine lc_dataL (M := M) (K := K) (a := b) (xs := r) ds hl nD (SqL.of hb) (by omega) ?_ ?_
      · intro i x dx H3 acc R hx hdx a3 hD k
        have hdl : dx ∈ ds := List.mem_of_getElem? hdx
        obtain ⟨x', hx', isx⟩ := hr1.get hdx
        rw [hx] at hx'
        cases hx'
        have d1 := dep_mem hdl
        have d2 := sz_mem hdl
        refine ⟨rfl, x, rfl, x, dx, D :: M, rfl, ?_, (isx.fresh nD).adv (a3.more (by simp)), by omega, by omega, fun v' H4 h4 a4 => ?_⟩
        · intro c hc
          rcases List.mem_cons.mp hc with e | hc
          · rw [e, hD]; simp
          · cases e : H c with
            | none => exact absurd e (hM c hc)
            | some o => rw [a3.same _ _ e]; simp
        · exact k v' H4 (a4.same _ _ hD) (a4.more (by simp)) h4
      · intro H3 acc a3 hD hacc
        exact q _ _ (Is.lst hD (not_mem_new hM nD) (hacc.less (by simp +contextual))) a3
    | tuple ds =>
      refine iteN (by simp [kitD, tyN]) ?_
      refine ⟨_, rfl, _, _, _, _, _, rfl, .ty _, hv.ty A.W, k_list _, _, rfl, iteN (by simp [kitD, tyN]) ?_⟩
      refine ⟨_, rfl, _, _, _, _, _, rfl, .ty _, hv.ty A.W, k_tuple _, _, rfl, iteY (by simp [kitD, tyN]) ?_⟩
      obtain ⟨b, r, rfl, hb, hr1⟩ := hv.tupE
      have hl := hr1.len
      have hdd : dep (.tuple ds) = 1 + depL ds := by rw [dep]
      have hss : sz (.tuple ds) = 1 + szL ds := by rw [sz]
      have hlen := szL_len ds
      refine ⟨_, rfl, b, rfl, ⟨_, hb.sq A.W⟩, fun D nD => ?_⟩
      refine lc_dataT (M := M) (K := K) (a := b) (xs := r) ds hl nD (hb.sq A.W) (by omega) ?_ ?_
      · intro i x dx H3 acc R hx hdx a3 hD k
        have hdl : dx ∈ ds := List.mem_of_getElem? hdx
        obtain ⟨x', hx', isx⟩ := hr1.get hdx
        rw [hx] at hx'
        cases hx'
        have d1 := dep_mem hdl
        have d2 := sz_mem hdl
        refine ⟨rfl, x, rfl, x, dx, D :: M, rfl, ?_, (isx.fresh nD).adv (a3.more (by simp)), by omega, by omega, fun v' H4 h4 a4 => ?_⟩
        · intro c hc
          rcases List.mem_cons.mp hc with e | hc
          · rw [e, hD]; simp
          · cases e : H c with
            | none => exact absurd e (hM c hc)
            | some o => rw [a3.same _ _ e]; simp
        · exact k v' H4 (a4.same _ _ hD) (a4.more (by simp)) h4
      · intro H3 acc a3 hD hacc
        refine ⟨D, acc, rfl, .inl ⟨SqL.of hD, fun l nl => ?_⟩⟩
        have aN : Adv [] H3 (upd H3 l (.tup acc)) := Adv.new nl
        exact q _ _ (Is.tup upd_same (not_mem_new hM (a3.free (by simp) nl)) ((hacc.less (by simp +contextual)).adv (aN.more (by simp)))) (a3.trans aN)
    | none =>
      refine iteN (by simp [kitD, tyN]) ?_
      refine ⟨_, rfl, _, _, _, _, _, rfl, .ty _, hv.ty A.W, k_list _, _, rfl, iteN (by simp [kitD, tyN]) ?_⟩
      refine ⟨_, rfl, _, _, _, _, _, rfl, .ty _, hv.ty A.W, k_tuple _, _, rfl, iteN (by simp [kitD, tyN]) ?_⟩
      exact ⟨_, rfl, q _ _ hv (Adv.refl _ _)⟩
    | bool _ =>
      refine iteN (by simp [kitD, tyN]) ?_
      refine ⟨_, rfl, _, _, _, _, _, rfl, .ty _, hv.ty A.W, k_list _, _, rfl, iteN (by simp [kitD, tyN]) ?_⟩
      refine ⟨_, rfl, _, _, _, _, _, rfl, .ty _, hv.ty A.W, k_tuple _, _, rfl, iteN (by simp [kitD, tyN]) ?_⟩
      exact ⟨_, rfl, q _ _ hv (Adv.refl _ _)⟩
    | int _ =>
      refine iteN (by simp [kitD, tyN]) ?_
      refine ⟨_, rfl, _, _, _, _, _, rfl, .ty _, hv.ty A.W, k_list _, _, rfl, iteN (by simp [kitD, tyN]) ?_⟩
      refine ⟨_, rfl, _, _, _, _, _, rfl, .ty _, hv.ty A.W, k_tuple _, _, rfl, iteN (by simp [kitD, tyN]) ?_⟩
      exact ⟨_, rfl, q _ _ hv (Adv.refl _ _)⟩
    | str _ =>
      refine iteN (by simp [kitD, tyN]) ?_
      refine ⟨_, rfl, _, _, _, _, _, rfl, .ty _, hv.ty A.W, k_list _, _, rfl, iteN (by simp [kitD, tyN]) ?_⟩
      refine ⟨_, rfl, _, _, _, _, _, rfl, .ty _, hv.ty A.W, k_tuple _, _, rfl, iteN (by simp [kitD, tyN]) ?_⟩
      exact ⟨_, rfl, q _ _ hv (Adv.refl _ _)⟩

theorem ok_law_copy (A : All K mg w) : ∀ n : Nat, FnOk P w K mg base CX0 (n + 1) A.law_copy.f A.law_copy.fd ["value"] (spCopy n)
  | 0 => copy_0 A
  | n + 1 => copy_s A (ok_law_copy A n)
end

set_option Elab.async false
set_option linter.all false
set_option maxRecDepth 100000
set_option maxHeartbeats 400000
open PySem PySem.Spec PyProof.Rows L2 LL
section
variable [KW]
variable {P : Program} {w : World} {K : PySem.W.Frag} {mg : Str → Option Value} {base : Heap}
/-! ### _law_row, by the book's content -/
structure RowP (vs : List V) (H : Hp) (Q : VK) : Prop where
  ex : ∃ (M : List Addr) (bk b0 b1 nd : Addr) (ns : List Nd) (n : Nd), vs = [.ref bk, .ref nd] ∧ H bk = some (.lst [.ref b0, .ref b1]) ∧ bk ∉ M ∧ BkN M H b0 b1 ns ∧ Tp M H nd (n.keys.map kV) ∧ ns.length ≤ 1000000 ∧
  ∀ H', BkN M H' b0 b1 (rowF ns n).2 → Adv [b0, b1] H H' → Q (.int ((rowF ns n).1 : Nat)) H'
def spRowN : Sp := fun vs H Q _ => RowP vs H Q
theorem ok_law_row (A : All K mg w) : FnOk P w K mg base CX0 1 A.law_row.f A.law_row.fd ["book", "node"] spRowN := by
  refine A.law_row.F.ok sc_law_row (fun vs H Q E h => ?_) (fun cdv Ar outer s H vs Q E hr h => ?_)
  · obtain ⟨M, bk, b0, b1, nd, ns, n, rfl, _⟩ := h.ex
    rfl
  · obtain ⟨M, bk, b0, b1, nd, ns, n, rfl, hbk, kM, B, hnd, hl, q⟩ := h.ex
    refine ⟨_, (pss_cons (ps_if (pt_cmp (pc_dnotinX A.W (hu_of hr) (pv 1) (pe_ix ix_list (pv 0) pe_int (fun _ _ => rfl))))
    (pss_cons (ps_dputX A.W (hu_of hr) (pe_ix ix_list (pv 0) pe_int (fun _ _ => rfl)) (pv 1) (pe_callB call_len_seq (by rfl) A.T.len PySem.boot_len (pa_cons (pe_ix ix_list (pv 0) pe_int (fun _ _ => rfl)) pa_nil)) rfl)
  (pss_one (ps_expr (pe_bm PySem.F.plainAttrs_list PySem.F.slot_list_append PySem.F.type_list_append mt_append (pe_ix ix_list (pv 0) pe_int (fun _ _ => rfl)) (pa_cons (pv 1) pa_nil)))))
    pss_nil)
  (pss_one (ps_ret (pe_dgetX A.W (hu_of hr) (pe_ix ix_list (pv 0) pe_int (fun _ _ => rfl)) (pv 1) (fun _ _ => rfl))))), ?_⟩
    obtain ⟨⟨rs, r0, rd⟩, r1, m0, m1, n01, al⟩ := id B
    have hrl : rs.length = ns.length := by have := rd.len; rw [List.length_map] at this; exact this
    have i0 : atI [V.ref b0, .ref b1] 0 = some (.ref b0) := atI_nat (j := 0) rfl
    have i1 : atI [V.ref b0, .ref b1] 1 = some (.ref b1) := atI_nat (j := 1) rfl
    have hv := tab_val 0 ns n
    refine ⟨_, rfl, _, rfl, bk, _, 1, _, rfl, rfl, SqL.of hbk, i1, b1, _, rfl, r1.get A.W hnd, _, rfl, ?_⟩
    by_cases hm : n ∈ ns
    · rw [if_pos hm, Nat.zero_add] at hv
      rw [hv]
      refine iteN rfl ?_
      refine ⟨_, rfl, bk, _, 1, _, rfl, rfl, SqL.of hbk, i1, _, rfl, b1, .int (ns.idxOf n : Nat), rfl, by have := r1.get A.W hnd; rw [hv] at this; exact this, ?_⟩
      unfold rowF at q
      rw [if_pos hm] at q
      exact q H B (Adv.refl _ _)
    · rw [if_neg hm] at hv
      rw [hv]
      refine iteY rfl ?_
      obtain ⟨o, hg, B2⟩ := B.push A.W r0 hnd hm (by rw [sizeLine_eq]; omega)
      refine ⟨_, rfl, bk, _, 0, _, rfl, rfl, SqL.of hbk, i0, b0, rs, rfl, .inl (SqL.of r0), ?_⟩
      refine ⟨_, rfl, bk, _, 1, _, rfl, rfl, SqL.of hbk, i1, _, rfl, b1, _, rfl, hg, ?_⟩
      have kb1 : bk ≠ b1 := fun z => kM (by rw [z]; exact m1)
      have kb0 : bk ≠ b0 := fun z => kM (by rw [z]; exact m0)
      have hbk1 : (upd H b1 o) bk = some (.lst [.ref b0, .ref b1]) := by rw [upd_ne kb1]; exact hbk
      have r01 : (upd H b1 o) b0 = some (.lst rs) := by rw [upd_ne n01]; exact r0
      refine ⟨_, rfl, bk, _, 0, _, rfl, rfl, SqL.of hbk1, i0, .inl ⟨rfl, _, SqL.of r01⟩, _, rfl, b0, rs, _, rfl, rfl, r01, by rw [sizeLine_eq]; omega, ?_⟩
      have aa : Adv [b0, b1] H (upd (upd H b1 o) b0 (.lst (rs ++ [.ref nd]))) := (Adv.set (by simp)).trans (Adv.set (by simp))
      have hbk2 : (upd (upd H b1 o) b0 (.lst (rs ++ [.ref nd]))) bk = some (.lst [.ref b0, .ref b1]) := by rw [upd_ne kb0]; exact hbk1
      have hnd2 := hnd.adv (aa.more (by simp [m0, m1]))
      have hval : valV (tabG 0 (ns ++ [n])) n.keys = some (.int (ns.length : Nat)) := by
        rw [tab_val, if_pos (by simp), Nat.zero_add, List.idxOf_append, if_neg hm]
        simp [List.idxOf_cons]
      refine ⟨_, rfl, bk, _, 1, _, rfl, rfl, SqL.of hbk2, i1, _, rfl, b1, _, rfl, by have := B2.tab.get A.W hnd2; rw [hval] at this; exact this, ?_⟩
      unfold rowF at q
      rw [if_neg hm] at q
      exact q _ B2 aa
end

set_option Elab.async false
set_option linter.all false
set_option maxRecDepth 100000
set_option maxHeartbeats 400000
open PySem PySem.Spec PyProof.Rows L2 LL
section
variable [KW]
variable {P : Program} {w : World} {K : PySem.W.Frag} {mg : Str → Option Value} {base : Heap}
theorem ixN_of {n j : Nat} (h : j < n) : ixN n (j : Int) = some j := by
  unfold ixN
  rw [if_pos (Int.natCast_nonneg j), if_pos (by omega), Int.toNat_natCast]
def nV (l : List Nat) : List V := l.map fun i => V.int (i : Nat)
structure PartsP (tup : Bool) (vs : List V) (H : Hp) (Q : VK) : Prop where
  ex : ∃ (M : List Addr) (a : Addr) (n : Nd), vs = [.ref a] ∧ Tp M H a (n.keys.map kV) ∧ ∀ l H', H l = none → H' l = some (if tup = true then .tup (nV n.parts) else .lst (nV n.parts)) → Adv [] H H' → Q (.ref l) H'
def spParts (tup : Bool) : Sp := fun vs H Q _ => PartsP tup vs H Q
theorem ok_law_parts (A : All K mg w) : FnOk P w K mg base CX0 1 A.law_parts.f A.law_parts.fd ["node"] (spParts false) := by
  refine A.law_parts.F.ok sc_law_parts (fun vs H Q E h => ?_) (fun cdv Ar outer s H vs Q E hr h => ?_)
  · obtain ⟨M, a, n, rfl, _⟩ := h.ex
    rfl
  · obtain ⟨M, a, n, rfl, ha, q⟩ := h.ex
    refine ⟨_, (pss_one (ps_ret (pe_ifExp (pt_cmpR op_eq (pe_ix ix_tup (pv 0) pe_int (fun _ _ => rfl)) pe_str (nomark _)) (pe_lst pa_nil) (pe_callTy call_list_of (by rfl) A.T.list (by decide +kernel) (pa_cons (pe_slice sl_tup (pv 0) (po_some pe_int) po_none) pa_nil))))), ?_⟩
    have ha0 : SqT K H a (n.keys.map kV) := ha.sq A.W
    cases n with
    | letter i =>
      refine ⟨_, rfl, a, _, 0, _, rfl, rfl, ha0, atI_nat (j := 0) rfl, rfl, _, rfl, iteY (by decide) ⟨by show 0 ≤ sizeLine; exact Nat.zero_le _, fun p np => ?_⟩⟩
      exact q p _ np upd_same (Adv.new np)
    | no =>
      refine ⟨_, rfl, a, _, 0, _, rfl, rfl, ha0, atI_nat (j := 0) rfl, rfl, _, rfl, iteN (by decide) ?_⟩
      refine ⟨_, rfl, 1, rfl, a, _, rfl, ha0, by decide, fun p np => ?_⟩
      refine ⟨p, _, rfl, .inr (SqT.of upd_same), fun l nl => ?_⟩
      exact q l _ ((Adv.new (M := []) np).free (by simp) nl) upd_same ((Adv.new np).trans (Adv.new nl))
    | bin o j k =>
      refine ⟨_, rfl, a, _, 0, _, rfl, rfl, ha0, atI_nat (j := 0) rfl, rfl, _, rfl, iteN (by cases o <;> decide) ?_⟩
      refine ⟨_, rfl, 1, rfl, a, _, rfl, ha0, by simp [Nd.keys, HT.sIx], fun p np => ?_⟩
      refine ⟨p, _, rfl, .inr (SqT.of upd_same), fun l nl => ?_⟩
      refine q l _ ((Adv.new (M := []) np).free (by simp) nl) ?_ ((Adv.new np).trans (Adv.new nl))
      rw [upd_same, cut_from1]
      rfl
    | box j =>
      refine ⟨_, rfl, a, _, 0, _, rfl, rfl, ha0, atI_nat (j := 0) rfl, rfl, _, rfl, iteN (by decide) ?_⟩
      refine ⟨_, rfl, 1, rfl, a, _, rfl, ha0, by simp [Nd.keys, HT.sIx], fun p np => ?_⟩
      refine ⟨p, _, rfl, .inr (SqT.of upd_same), fun l nl => ?_⟩
      refine q l _ ((Adv.new (M := []) np).free (by simp) nl) ?_ ((Adv.new np).trans (Adv.new nl))
      rw [upd_same, cut_from1]
      rfl
/-! ### _law_below -/
structure BelP (vs : List V) (H : Hp) (Q : VK) : Prop where
  ex : ∃ (sh rw_ : Addr) (ns : List Nd) (rs : List V) (rows : List Nat) (boxed : Bool), vs = [.ref sh, .ref rw_] ∧ H sh = some (.lst rs) ∧ IsDs [] H (ns.map Nd.data) rs ∧ (H rw_ = some (.lst (nV rows)) ∨ Tp [] H rw_ (nV rows)) ∧ (∀ r ∈ rows, r < ns.length) ∧ okSheet boxed ns ∧ ns.length ≤ 200000 ∧ rows.length ≤ 200000 ∧
    ∀ l H', H l = none → H' l = some (.lst (nV (belowF ns rows))) → Adv [] H H' → Q (.ref l) H'
def spBelow : Sp := fun vs H Q _ => BelP vs H Q
/-! ### rows_below -/
end

set_option Elab.async false
set_option linter.all false
set_option maxRecDepth 100000
set_option maxHeartbeats 400000
open PySem PySem.Spec PyProof.Rows L2 LL
local macro_rules | `(tactic| walk_at "ne") => `(tactic| first | assumption | (apply Ne.symm; assumption) | exact ne_of_none (by walk_at "hp") (by assumption) | exact (ne_of_none (by walk_at "hp") (by assumption)).symm)
local macro_rules | `(tactic| walk_at "nm") => `(tactic| first | assumption | exact notin0 | exact notin1 (by walk_at "ne") | exact notin2 (by walk_at "ne") (by walk_at "ne"))
local macro_rules | `(tactic| walk_at "hp") => `(tactic| first | assumption | exact upd_same | (refine Eq.trans (upd_ne ?ne) ?hh; (case hh => walk_at "hp"); (case ne => walk_at "ne")) | (refine Adv.get' (by assumption) ?hh ?nn; (case hh => walk_at "hp"); (case nn => walk_at "nm")))
local macro_rules | `(tactic| walk_at "tp") => `(tactic| first | assumption | exact Tp.adv (by walk_at "tp") (by assumption) | exact Tp.adv (by walk_at "tp") (Adv.nil (by assumption)))
local macro_rules | `(tactic| walk_at "sq") => `(tactic| first | assumption | exact Tp.sq (by assumption) (by walk_at "tp") | exact SqT.of (by walk_at "hp"))
local macro_rules | `(tactic| walk_at "at") => `(tactic| first | exact atI_nat (j := 0) rfl | exact atI_nat (j := 1) rfl | exact atI_nat (j := 2) rfl | exact atI_nat (j := 3) rfl | exact atI_nat (by assumption) | (rw [Int.zero_add]; exact atI_nat (by assumption)))
local macro_rules | `(tactic| walk_at "bb") => `(tactic| first | assumption | decide | exact rfl)
local macro_rules | `(tactic| walk_at "ci") => `(tactic| first | omega | (dsimp only; omega) | (unfold CDiv; omega) | (unfold CMul; omega))
local macro_rules | `(tactic| walk_at "rd1") => `(tactic| first
  | with_reducible refine rd_c ?_
  | ((with_reducible refine' rd_var ?rh ?_); (case rh => exact rfl))
  | with_reducible refine rd_op ?_
  | with_reducible refine rd_seq ?_
  | with_reducible refine rd_asg ?_
  | with_reducible refine rd_gname ?_
  | with_reducible refine rd_ifS ?_
  | with_reducible refine rd_test ?_
  | with_reducible refine rd_tB ?_
  | with_reducible refine rd_blP ?_
  | ((with_reducible refine' iteY ?rh ?_); (case rh => walk_at "bb"))
  | ((with_reducible refine' iteN ?rh ?_); (case rh => walk_at "bb"))
  | with_reducible refine rd_ret ?_
  | with_reducible refine rd_nx ?_
  | ((with_reducible refine' rd_eq ?rh ?_); (case rh => exact rfl))
  | ((with_reducible refine' rd_ne ?rh ?_); (case rh => exact rfl))
  | with_reducible refine rd_add ?_
  | with_reducible refine rd_sub ?_
  | with_reducible refine rd_i0 ?_
  | with_reducible refine rd_and ?_
  | with_reducible refine rd_or ?_
  | with_reducible refine rd_not ?_
  | with_reducible refine rd_andV ?_
  | with_reducible refine rd_orV ?_
  | with_reducible refine rd_notV ?_
  | with_reducible refine rd_ifE ?_
  | with_reducible refine rd_isN ?_
  | with_reducible refine rd_notN ?_
  | with_reducible refine rd_cons ?_
  | with_reducible refine rd_nil ?_
  | with_reducible refine rd_tup ?_
  | with_reducible refine rd_lst ?_
  | with_reducible refine rd_call ?_
  | with_reducible refine rd_cb ?_
  | with_reducible refine rd_meth ?_
  | with_reducible refine rd_callS ?_
  | with_reducible refine rd_make ?_
  | with_reducible refine rd_rfl ?_
  | with_reducible refine rd_fld ?_
  | with_reducible refine rd_drop ?_
  | with_reducible refine rd_gsub ?_
  | with_reducible refine rd_gcons ?_
  | with_reducible refine rd_gnil ?_
  | with_reducible refine rd_par ?_
  | with_reducible refine rd_two ?_
  | with_reducible refine rd_par3 ?_
  | with_reducible refine rd_three ?_
  | with_reducible refine rd_int1 ?_
  | ((with_reducible refine' rd_i ?rh ?_); (case rh => walk_at "ci"))
  | with_reducible refine rd_part ?_
  | with_reducible refine rd_nopart ?_
  | with_reducible refine rd_int ?_
  | with_reducible refine rd_sl ?_
  | with_reducible refine rd_bm ?_
  | with_reducible refine rd_bm0 ?_
  | with_reducible refine rd_dgetT ?_
  | with_reducible refine rd_din ?_
  | with_reducible refine rd_dnin ?_
  | with_reducible refine rd_un ?_
  | ((with_reducible refine' rd_ixL ?rh ?re ?_); (case rh => walk_at "hp"); (case re => walk_at "at"))
  | ((with_reducible refine' rd_ixT ?rh ?re ?_); (case rh => walk_at "sq"); (case re => walk_at "at"))
  | ((with_reducible refine' rd_lenT ?rh ?_); (case rh => walk_at "sq"))
  | ((with_reducible refine' rd_tyL ?rh ?_); (case rh => walk_at "hp"))
  | ((with_reducible refine' rd_len ?rh ?_); (case rh => walk_at "hp"))
  | with_reducible refine rd_u ?_
  | ((with_reducible refine' rd_slL ?rh ?_); (case rh => walk_at "hp"))
  | with_reducible refine rd_for ?_
  | with_reducible refine rd_rng1 ?_
  | with_reducible refine rd_rng2 ?_
  | with_reducible refine rd_ints1 ?_
  | with_reducible refine rd_ints2 ?_
  | with_reducible refine rd_retN ?_)
local macro_rules | `(tactic| walk_at "rd") => `(tactic| repeat walk_at "rd1")
section
variable [KW]
variable {P : Program} {w : World} {K : PySem.W.Frag} {mg : Str → Option Value} {base : Heap}
theorem row_len (ns : List Nd) (n : Nd) : (rowF ns n).2.length ≤ ns.length + 1 := rowLe ns n
/-! ### merge -/
structure MergeP (vs : List V) (H : Hp) (Q : VK) : Prop where
  ex : ∃ (M : List Addr) (a b : Addr) (rs us : List V) (ns ms : List Nd) (bx : Bool), vs = [.ref a, .ref b] ∧ (∀ c ∈ M, H c ≠ none) ∧ H a = some (.lst rs) ∧ IsDs M H (ns.map Nd.data) rs ∧ H b = some (.lst us) ∧ IsDs M H (ms.map Nd.data) us ∧ okSheet bx ns ∧ okSheet bx ms ∧ ns.length ≤ 200000 ∧ ms.length ≤ 200000 ∧
    ∀ t g l rs' H', H g = none → H l = none → H' t = some (.tup [.ref g, .ref l]) → H' g = some (.lst rs') → H' l = some (.lst (nV (mrgF ns ms).2)) → IsDs M H' ((mrgF ns ms).1.map Nd.data) rs' → Adv [] H H' → Q (.ref t) H'
def spMerge : Sp := fun vs H Q _ => MergeP vs H Q
end

set_option Elab.async false
set_option linter.all false
set_option maxRecDepth 100000
set_option maxHeartbeats 400000
open PySem PySem.Spec PyProof.Rows L2 LL
def allNames : List Str := ["BadLogic", "BadSheet", "BadClaim", "BadValue"]
/-- the classes of errors -/
structure Exs (K : PySem.W.Frag) (mg : Str → Option Value) where
  CE : Addr
  cA : Str → Addr
  mC : mg "CourtError" = some (.ref CE)
  mA : ∀ n ∈ allNames, mg n = some (.ref (cA n))
structure Er_BadLogic {K : PySem.W.Frag} {mg : Str → Option Value} (Z : Exs K mg) : Prop where
  Q : PySem.W.excIn K (Z.cA "BadLogic") [.type "ValueError", .type "Exception", .type "BaseException", .type "object"] "ValueError.__new__" = true
  K_ : PySem.W.keepIn K (.ref (Z.cA "BadLogic")) = true
  B : PySem.W.subIn K (.ref (Z.cA "BadLogic")) (.type "BaseException") = some true
  T : PySem.W.typeIn K (.ref (Z.cA "BadLogic")) = some (.type "type")
abbrev s_BadSheet : Stmt := inClass (top 3) 0
theorem sc_BadSheet : FnScope ["self", "row"] ["self", "row"] (defScope s_BadSheet) := ⟨rfl, rfl, rfl, by decide +kernel, rfl, by decide +kernel, by decide +kernel⟩
structure Er_BadSheet {K : PySem.W.Frag} {mg : Str → Option Value} (Z : Exs K mg) where
  O : OexC K (Z.cA "BadSheet")
  f : Addr
  fd : FuncData
  I : PySem.W.findIn K (.ref (Z.cA "BadSheet")) "__init__" = some (some (.ref f))
  T : PySem.W.typeIn K (.ref f) = some (.type "function")
  F : Fun K "__init__" "BadSheet.__init__" s_BadSheet f fd
  b : Binds K fd ["self", "row"] []
  X : XfC K (Z.cA "BadSheet")
  A_ : PySem.W.findIn K (.ref (Z.cA "BadSheet")) "row" = some none
abbrev s_BadClaim : Stmt := inClass (top 4) 0
theorem sc_BadClaim : FnScope ["self", "word"] ["self", "word"] (defScope s_BadClaim) := ⟨rfl, rfl, rfl, by decide +kernel, rfl, by decide +kernel, by decide +kernel⟩
structure Er_BadClaim {K : PySem.W.Frag} {mg : Str → Option Value} (Z : Exs K mg) where
  O : OexC K (Z.cA "BadClaim")
  f : Addr
  fd : FuncData
  I : PySem.W.findIn K (.ref (Z.cA "BadClaim")) "__init__" = some (some (.ref f))
  T : PySem.W.typeIn K (.ref f) = some (.type "function")
  F : Fun K "__init__" "BadClaim.__init__" s_BadClaim f fd
  b : Binds K fd ["self", "word"] []
  X : XfC K (Z.cA "BadClaim")
  A_ : PySem.W.findIn K (.ref (Z.cA "BadClaim")) "word" = some none
abbrev s_BadValue : Stmt := inClass (top 5) 0
structure Er_BadValue {K : PySem.W.Frag} {mg : Str → Option Value} (Z : Exs K mg) where
  O : OexC K (Z.cA "BadValue")
  f : Addr
  fd : FuncData
  I : PySem.W.findIn K (.ref (Z.cA "BadValue")) "__init__" = some (some (.ref f))
  T : PySem.W.typeIn K (.ref f) = some (.type "function")
  F : Fun K "__init__" "BadValue.__init__" s_BadValue f fd
  b : Binds K fd ["self", "name"] []
  X : XfC K (Z.cA "BadValue")
  A_ : PySem.W.findIn K (.ref (Z.cA "BadValue")) "name" = some none
section
variable [KW]
variable {P : Program} {w : World} {K : PySem.W.Frag} {mg : Str → Option Value} {base : Heap}
/-! ### __init__ -/
def spInit (S : Addr) (fl : Str) : Sp := fun vs H Q _ => ∃ (a : Addr) (y : V), vs = [.ref a, y] ∧ H a = some (exo a S none) ∧ ∀ dx, H dx = none → dx ≠ a → Q .non (upd (upd H dx (exd dx [(fl, y)])) a (exo a S (some dx)))
theorem ok_BadSheet {Z : Exs K mg} (Z1 : Er_BadSheet Z) : FnOk P w K mg base CX0 1 Z1.f Z1.fd ["self", "row"] (spInit (Z.cA "BadSheet") "row") := by
  refine Z1.F.ok sc_BadSheet (fun vs H Q E h => ?_) (fun cdv Ar outer s H vs Q E hr h => ?_)
  · obtain ⟨a, y, rfl, _⟩ := h
    rfl
  · obtain ⟨a, y, rfl, ha, q⟩ := h
    refine ⟨_, pss_one (ps_ost (pv 0) (pv 1)), ?_⟩
    exact ⟨_, rfl, _, rfl, a, Z.cA "BadSheet", rfl, Z1.O, Z1.A_, .inl ⟨ha, fun dx n1 n2 => q dx n1 n2⟩⟩
theorem ok_BadClaim {Z : Exs K mg} (Z1 : Er_BadClaim Z) : FnOk P w K mg base CX0 1 Z1.f Z1.fd ["self", "word"] (spInit (Z.cA "BadClaim") "word") := by
  refine Z1.F.ok sc_BadClaim (fun vs H Q E h => ?_) (fun cdv Ar outer s H vs Q E hr h => ?_)
  · obtain ⟨a, y, rfl, _⟩ := h
    rfl
  · obtain ⟨a, y, rfl, ha, q⟩ := h
    refine ⟨_, pss_one (ps_ost (pv 0) (pv 1)), ?_⟩
    exact ⟨_, rfl, _, rfl, a, Z.cA "BadClaim", rfl, Z1.O, Z1.A_, .inl ⟨ha, fun dx n1 n2 => q dx n1 n2⟩⟩
end

set_option Elab.async false
set_option linter.all false
set_option maxRecDepth 100000
set_option maxHeartbeats 400000
open PySem PySem.Spec PyProof.Rows L2 LL
open C8 (pss_cut)
section
variable [KW]
variable {P : Program} {w : World} {K : PySem.W.Frag} {mg : Str → Option Value} {base : Heap}
/-- a node that was written just now is put into the book -/
theorem row_dn {M : List Addr} {H H0 : Hp} {s bk b0 b1 p : Addr} {bx : Bool} {ns0 ns : List Nd} {c : Nat} {Q : VK} (n : Nd) (D : Dw M H s bk b0 b1 bx ns) (hp : H p = none) (hn : n.ok bx ns.length = true) (hl : ns.length ≤ 900000)
    (pre : ns0 <+: ns) (hc : ns.length + 1 ≤ ns0.length + c) (a0 : Adv [s, b0, b1] H0 H) (q : ∀ r ns' H', Dn c M s bk b0 b1 bx ns0 H0 r ns' H' → Q (.int (r : Nat)) H') : RowP [.ref bk, .ref p] (upd H p (.tup (n.keys.map kV))) Q := by
  have a : Adv [] H (upd H p (.tup (n.keys.map kV))) := Adv.new hp
  have D1 := D.same a
  have h1 := row_len ns n
  exact ⟨⟨M, bk, b0, b1, p, ns, n, rfl, D1.hbk, D.kM, D1.B, Tp.of upd_same (not_mem_new D.B.al hp), by omega, fun H' B' a' => q _ _ H' ⟨pre.trans (rowF_pre ns n), rowF_lt ns n, by omega, D1.row hn a' B', (a0.trans (Adv.nil a)).trans (a_b a')⟩⟩⟩
/-! ### _law_leaf -/
structure LeafP (vs : List V) (H : Hp) (Q : VK) : Prop where
  ex : ∃ (M : List Addr) (s bk b0 b1 : Addr) (bx : Bool) (ns : List Nd) (letters : Int), vs = [.ref s, .ref bk, .int letters] ∧ Dw M H s bk b0 b1 bx ns ∧ 0 < letters ∧ letters ≤ 8 ∧ ns.length ≤ 900000 ∧
    ∀ r ns' H', Dn 1 M s bk b0 b1 bx ns H r ns' H' → Q (.int (r : Nat)) H'
def spLeaf : Sp := fun vs H Q _ => LeafP vs H Q
theorem ok_law_leaf (A : All K mg w) : FnOk P w K mg base CX0 2 A.law_leaf.f A.law_leaf.fd ["stream", "book", "letters"] spLeaf := by
  refine A.law_leaf.F.ok sc_law_leaf (fun vs H Q E h => ?_) (fun cdv Ar outer s H vs Q E hr h => ?_)
  · obtain ⟨M, s, bk, b0, b1, bx, ns, letters, rfl, _⟩ := h.ex
    rfl
  · obtain ⟨M, s, bk, b0, b1, bx, ns, letters, rfl, D, l0, l1, hl, q⟩ := h.ex
    refine ⟨_, (pss_one (ps_ret (pe_call (ok_law_row A) (hr.mono (by omega)) rfl A.law_row.m A.law_row.F.kp A.law_row.b .nil pass0 (pa_cons (pv 1) (pa_cons (pe_ifExp (pt_cmpR op_eq (pe_call (ok_law_next A) (hr.mono (by omega)) rfl A.law_next.m A.law_next.F.kp A.law_next.b .nil pass0 (pa_cons (pv 0) (pa_cons pe_int pa_nil))) pe_int (nomark _)) (pe_tup (pa_cons pe_str pa_nil)) (pe_tup (pa_cons pe_str (pa_cons (pe_call (ok_law_next A) (hr.mono (by omega)) rfl A.law_next.m A.law_next.F.kp A.law_next.b .nil pass0 (pa_cons (pv 0) (pa_cons (pv 2) pa_nil))) pa_nil)))) pa_nil))))), ?_⟩
    walk_at "rd"
    refine ⟨s, 7, M, rfl, D.str, by decide, by decide, fun d H1 d0 d1 hs1 a1 => ?_⟩
    have D1 := D.next a1 hs1
    walk_at "rd"
    refine iteB (fun e => ?_) (fun e => ?_)
    · walk_at "rd"
      refine ⟨by show 1 ≤ sizeLine; decide, fun p np => ?_⟩
      walk_at "rd"
      exact row_dn .no D1 np rfl hl (List.prefix_refl _) (by omega) (a_s a1) q
    · walk_at "rd"
      refine ⟨s, letters, M, rfl, hs1, l0, by omega, fun x H2 x0 x1 hs2 a2 => ?_⟩
      have D2 := D1.next a2 hs2
      obtain ⟨j, rfl⟩ : ∃ j : Nat, x = (j : Int) := ⟨x.toNat, by omega⟩
      walk_at "rd"
      refine ⟨by show 2 ≤ sizeLine; decide, fun p np => ?_⟩
      walk_at "rd"
      exact row_dn (.letter j) D2 np (by simp only [Nd.ok, decide_eq_true_eq]; omega) hl (List.prefix_refl _) (by omega) ((a_s a1).trans (a_s a2)) q
/-! ### _law_tree -/
structure TreeP (c : Int → Nat) (m : Nat) (vs : List V) (H : Hp) (Q : VK) : Prop where
  ex : ∃ (M : List Addr) (s bk b0 b1 : Addr) (bx : Bool) (ns : List Nd) (letters many : Int), vs = [.ref s, .ref bk, .int letters, .int many, .bl bx] ∧ Dw M H s bk b0 b1 bx ns ∧ 0 < letters ∧ letters ≤ 8 ∧ 0 ≤ many ∧ many ≤ m ∧ m ≤ 1000 ∧ ns.length + 4 * many.toNat ≤ 800000 ∧
    ∀ r ns' H', Dn (c many) M s bk b0 b1 bx ns H r ns' H' → Q (.int (r : Nat)) H'
def spTree (m : Nat) : Sp := fun vs H Q _ => TreeP (fun many => 2 * many.toNat + 1) m vs H Q
theorem op_pick {x : V} (h : x ∈ [V.str "and", .str "or", .str "if", .str "if"]) : ∃ o : Op3, x = .str o.str := by
  simp at h
  rcases h with h | h | h
  · exact ⟨.and, h⟩
  · exact ⟨.or, h⟩
  · exact ⟨.imp, h⟩
theorem tree_0 (A : All K mg w) : FnOk P w K mg base CX0 3 A.law_tree.f A.law_tree.fd ["stream", "book", "letters", "many", "boxed"] (spTree 0) := by
  refine A.law_tree.F.ok sc_law_tree (fun vs H Q E h => ?_) (fun cdv Ar outer s H vs Q E hr h => ?_)
  · obtain ⟨M, s, bk, b0, b1, bx, ns, letters, many, rfl, _⟩ := h.ex
    rfl
  · obtain ⟨M, s, bk, b0, b1, bx, ns, letters, many, rfl, D, l0, l1, m0, mm, m1, hl, q⟩ := h.ex
    refine ⟨_, (pss_cons (ps_if (pt_cmpR op_le (pv 3) pe_int (nomark _))
    (pss_one (ps_ret (pe_call (ok_law_leaf A) (hr.mono (by omega)) rfl A.law_leaf.m A.law_leaf.F.kp A.law_leaf.b .nil pass0 (pa_cons (pv 0) (pa_cons (pv 1) (pa_cons (pv 2) pa_nil))))))
    pss_nil)
  (pss_cut (ps_if (PW.pt (pw_and (pt_val (pv 4)) (pw_and1 (pt_cmpR op_lt (pe_call (ok_law_next A) (hr.mono (by omega)) rfl A.law_next.m A.law_next.F.kp A.law_next.b .nil pass0 (pa_cons (pv 0) (pa_cons pe_int pa_nil))) pe_int (nomark _)))))
    (pss_one (ps_ret (pe_call (ok_law_row A) (hr.mono (by omega)) rfl A.law_row.m A.law_row.F.kp A.law_row.b .nil pass0 (pa_cons (pv 1) (pa_cons (pe_tup (pa_cons pe_str (pa_cons pe_never pa_nil))) pa_nil)))))
    pss_nil)
  (pss_cons (ps_set (i := 5) sc_law_tree.nd rfl (Or.inl rfl) (pe_call (ok_law_next A) (hr.mono (by omega)) rfl A.law_next.m A.law_next.F.kp A.law_next.b .nil pass0 (pa_cons (pv 0) (pa_cons (pv 3) pa_nil))))
  (pss_cons (ps_set (i := 6) sc_law_tree.nd rfl (Or.inl rfl) pe_never)
  (pss_cons (ps_set (i := 7) sc_law_tree.nd rfl (Or.inl rfl) pe_never)
  (pss_one (ps_ret (pe_call (ok_law_row A) (hr.mono (by omega)) rfl A.law_row.m A.law_row.F.kp A.law_row.b .nil pass0 (pa_cons (pv 1) (pa_cons (pe_tup (pa_cons (pe_call (ok_law_pick A) (hr.mono (by omega)) rfl A.law_pick.m A.law_pick.F.kp A.law_pick.b .nil pass0 (pa_cons (pv 0) (pa_cons (pe_tup (pa_cons pe_str (pa_cons pe_str (pa_cons pe_str (pa_cons pe_str pa_nil))))) pa_nil))) (pa_cons (pv 6) (pa_cons (pv 7) pa_nil)))) pa_nil)))))))))), ?_⟩
    walk_at "rd"
    refine iteB (fun e => ?_) (fun e => ?_)
    · walk_at "rd"
      exact ⟨⟨M, s, bk, b0, b1, bx, ns, letters, rfl, D, l0, l1, by omega, fun r ns' H' x => q r ns' H' ⟨x.pre, x.lt, by have := x.le; omega, x.D, x.a⟩⟩⟩
    · have hm0 : ¬ many ≤ 0 := of_decide_eq_false e
      omega
theorem tree_s (A : All K mg w) {m : Nat} (G : FnOk P w K mg base CX0 (m + 3) A.law_tree.f A.law_tree.fd ["stream", "book", "letters", "many", "boxed"] (spTree m)) : FnOk P w K mg base CX0 (m + 4) A.law_tree.f A.law_tree.fd ["stream", "book", "letters", "many", "boxed"] (spTree (m + 1)) := by
  refine A.law_tree.F.ok sc_law_tree (fun vs H Q E h => ?_) (fun cdv Ar outer s H vs Q E hr h => ?_)
  · obtain ⟨M, s, bk, b0, b1, bx, ns, letters, many, rfl, _⟩ := h.ex
    rfl
  · obtain ⟨M, s, bk, b0, b1, bx, ns, letters, many, rfl, D, l0, l1, m0, mm, m1, hl, q⟩ := h.ex
    refine ⟨_, (pss_cons (ps_if (pt_cmpR op_le (pv 3) pe_int (nomark _))
    (pss_one (ps_ret (pe_call (ok_law_leaf A) (hr.mono (by omega)) rfl A.law_leaf.m A.law_leaf.F.kp A.law_leaf.b .nil pass0 (pa_cons (pv 0) (pa_cons (pv 1) (pa_cons (pv 2) pa_nil))))))
    pss_nil)
  (pss_cut (ps_if (PW.pt (pw_and (pt_val (pv 4)) (pw_and1 (pt_cmpR op_lt (pe_call (ok_law_next A) (hr.mono (by omega)) rfl A.law_next.m A.law_next.F.kp A.law_next.b .nil pass0 (pa_cons (pv 0) (pa_cons pe_int pa_nil))) pe_int (nomark _)))))
    (pss_one (ps_ret (pe_call (ok_law_row A) (hr.mono (by omega)) rfl A.law_row.m A.law_row.F.kp A.law_row.b .nil pass0 (pa_cons (pv 1) (pa_cons (pe_tup (pa_cons pe_str (pa_cons (pe_call G (hr.mono (by omega)) rfl A.law_tree.m A.law_tree.F.kp A.law_tree.b .nil pass0 (pa_cons (pv 0) (pa_cons (pv 1) (pa_cons (pv 2) (pa_cons (pe_op op_sub (pv 3) pe_int) (pa_cons (pv 4) pa_nil)))))) pa_nil))) pa_nil)))))
    pss_nil)
  (pss_cons (ps_set (i := 5) sc_law_tree.nd rfl (Or.inl rfl) (pe_call (ok_law_next A) (hr.mono (by omega)) rfl A.law_next.m A.law_next.F.kp A.law_next.b .nil pass0 (pa_cons (pv 0) (pa_cons (pv 3) pa_nil))))
  (pss_cons (ps_set (i := 6) sc_law_tree.nd rfl (Or.inl rfl) (pe_call G (hr.mono (by omega)) rfl A.law_tree.m A.law_tree.F.kp A.law_tree.b .nil pass0 (pa_cons (pv 0) (pa_cons (pv 1) (pa_cons (pv 2) (pa_cons (pv 5) (pa_cons (pv 4) pa_nil)))))))
  (pss_cons (ps_set (i := 7) sc_law_tree.nd rfl (Or.inl rfl) (pe_call G (hr.mono (by omega)) rfl A.law_tree.m A.law_tree.F.kp A.law_tree.b .nil pass0 (pa_cons (pv 0) (pa_cons (pv 1) (pa_cons (pv 2) (pa_cons (pe_op op_sub (pe_op op_sub (pv 3) pe_int) (pv 5)) (pa_cons (pv 4) pa_nil)))))))
  (pss_one (ps_ret (pe_call (ok_law_row A) (hr.mono (by omega)) rfl A.law_row.m A.law_row.F.kp A.law_row.b .nil pass0 (pa_cons (pv 1) (pa_cons (pe_tup (pa_cons (pe_call (ok_law_pick A) (hr.mono (by omega)) rfl A.law_pick.m A.law_pick.F.kp A.law_pick.b .nil pass0 (pa_cons (pv 0) (pa_cons (pe_tup (pa_cons pe_str (pa_cons pe_str (pa_cons pe_str (pa_cons pe_str pa_nil))))) pa_nil))) (pa_cons (pv 6) (pa_cons (pv 7) pa_nil)))) pa_nil)))))))))), ?_⟩
    walk_at "rd"
    refine iteB (fun e => ?_) (fun e => ?_)
    · walk_at "rd"
      exact ⟨⟨M, s, bk, b0, b1, bx, ns, letters, rfl, D, l0, l1, by omega, fun r ns' H' x => q r ns' H' ⟨x.pre, x.lt, by have := x.le; omega, x.D, x.a⟩⟩⟩
    have hm0 : ¬ many ≤ 0 := of_decide_eq_false e
    walk_at "rd"
    refine ⟨fun σ' H' => σ' = [some (.ref s), some (.ref bk), some (.int letters), some (.int many), some (.bl bx), none, none, none] ∧ Dw M H' s bk b0 b1 bx ns ∧ Adv [s, b0, b1] H H', ?_, ?_⟩
    · cases bx with
      | false =>
        walk_at "rd"
        exact ⟨rfl, D, Adv.refl _ _⟩
      | true =>
        walk_at "rd"
        refine ⟨s, 5, M, rfl, D.str, by decide, by decide, fun d H1 d0 d1 hs1 a1 => ?_⟩
        have D1 := D.next a1 hs1
        walk_at "rd"
        refine iteB (fun e => ?_) (fun e => ?_)
        · walk_at "rd"
          refine ⟨⟨M, s, bk, b0, b1, true, ns, letters, many - 1, rfl, D1, l0, l1, by omega, by omega, by omega, by omega, fun j ns2 H2 x => ?_⟩⟩
          have xl := x.le
          have xj := x.lt
          walk_at "rd"
          refine ⟨by show 2 ≤ sizeLine; decide, fun p np => ?_⟩
          walk_at "rd"
          exact row_dn (.box j) x.D np (by simp only [Nd.ok, Bool.true_and, decide_eq_true_eq]; exact x.lt) (by omega) x.pre (by omega) ((a_s a1).trans x.a) q
        · walk_at "rd"
          exact ⟨rfl, D1, a_s a1⟩
    · rintro σ' H1 ⟨rfl, D1, a1⟩
      walk_at "rd"
      refine ⟨s, many, M, rfl, D1.str, by omega, by omega, fun f H2 f0 f1 hs2 a2 => ?_⟩
      have D2 := D1.next a2 hs2
      walk_at "rd"
      refine ⟨⟨M, s, bk, b0, b1, bx, ns, letters, f, rfl, D2, l0, l1, f0, by omega, by omega, by omega, fun j ns3 H3 x3 => ?_⟩⟩
      have xl3 := x3.le
      have xj3 := x3.lt
      have xg3 := x3.ge
      walk_at "rd"
      refine ⟨⟨M, s, bk, b0, b1, bx, ns3, letters, many - 1 - f, rfl, x3.D, l0, l1, by omega, by omega, by omega, by omega, fun k ns4 H4 x4 => ?_⟩⟩
      have xl4 := x4.le
      have xj4 := x4.lt
      have xg4 := x4.ge
      walk_at "rd"
      refine ⟨by show 4 ≤ sizeLine; decide, fun p np => ?_⟩
      have D5 := x4.D.same (Adv.new (o := .tup [.str "and", .str "or", .str "if", .str "if"]) np)
      refine ⟨s, p, [.str "and", .str "or", .str "if", .str "if"], M, rfl, D5.str, .inr upd_same, (x4.D.free np).2.1, by simp, by simp, fun x H6 hx hs6 a6 => ?_⟩
      have D6 := D5.next a6 hs6
      obtain ⟨o, rfl⟩ := op_pick hx
      walk_at "rd"
      refine ⟨by show 3 ≤ sizeLine; decide, fun t nt => ?_⟩
      walk_at "rd"
      exact row_dn (.bin o j k) D6 nt (by simp only [Nd.ok, Bool.and_eq_true, decide_eq_true_eq]; omega) (by omega) (x3.pre.trans x4.pre) (by omega) (((((a1.trans (a_s a2)).trans x3.a).trans x4.a).newT np).trans (a_s a6)) q
theorem ok_law_tree (A : All K mg w) : ∀ m : Nat, FnOk P w K mg base CX0 (m + 3) A.law_tree.f A.law_tree.fd ["stream", "book", "letters", "many", "boxed"] (spTree m)
  | 0 => tree_0 A
  | m + 1 => tree_s A (ok_law_tree A m)
end

set_option Elab.async false
set_option linter.all false
set_option maxRecDepth 100000
set_option maxHeartbeats 4000000
open PySem PySem.Spec PyProof.Rows L2 LL
open C8 (pss_cut)
section
variable [KW]
variable {P : Program} {w : World} {K : PySem.W.Frag} {mg : Str → Option Value} {base : Heap}
/-! ### is_tuple_of -/
def tupN (n : Int) : PyData → Bool
  | .tuple ds => decide ((ds.length : Int) = n)
  | _ => false
theorem not_tup {d : PyData} (h : ¬ ∃ ds, d = .tuple ds) : kitD d "tuple" = false := by
  cases d with
  | tuple ds => exact absurd ⟨ds, rfl⟩ h
  | _ => simp [kitD, tyN]
def spIsTupleOf : Sp := fun vs H Q _ => ∃ (v : V) (d : PyData) (n : Int), vs = [v, .int n] ∧ Is [] H d v ∧ Q (.bl (tupN n d)) H
theorem ok_is_tuple_of (A : All K mg w) : FnOk P w K mg base CX0 1 A.is_tuple_of.f A.is_tuple_of.fd ["value", "many"] spIsTupleOf := by
  refine A.is_tuple_of.F.ok sc_is_tuple_of (fun vs H Q E h => ?_) (fun cdv Ar outer s H vs Q E hr h => ?_)
  · obtain ⟨v, d, n, rfl, _⟩ := h
    rfl
  · obtain ⟨v, d, n, rfl, hv, q⟩ := h
    refine ⟨_, (pss_one (ps_ret (pe_and (pe_callB call_isi (by rfl) A.T.isinstance (by decide +kernel) (pa_cons (pv 0) (pa_cons (pe_bltn (v := .ty "tuple") (by rfl) A.T.tuple (by decide +kernel) rfl) pa_nil))) (pe_one (pe_cmpR op_eq (pe_callB call_len_seq (by rfl) A.T.len PySem.boot_len (pa_cons (pv 0) pa_nil)) (pv 1) (nomark _)))))), ?_⟩
    refine ⟨_, rfl, _, _, _, _, _, rfl, .ty _, hv.ty A.W, k_tuple d, _, rfl, ?_⟩
    by_cases ht : ∃ ds, d = .tuple ds
    · obtain ⟨ds, rfl⟩ := ht
      obtain ⟨a, vs, rfl, htp, hs⟩ := hv.tupE
      refine iteY (by simp [kitD, tyN]) ?_
      have sq := htp.sq A.W
      walk_at "rd"
      have e : Q (.bl (decide (V.int (vs.length : Nat) = V.int n))) H := by
        rw [hs.len]
        have e2 : decide (V.int (ds.length : Nat) = V.int n) = decide ((ds.length : Int) = n) := by
          by_cases c : (ds.length : Int) = n
          · rw [c]; simp
          · rw [decide_eq_false c]
            exact decide_eq_false fun z => c (V.int.inj z)
        rw [e2]
        exact q
      exact e
    · refine iteN (not_tup ht) ?_
      cases d with
      | tuple ds => exact absurd ⟨ds, rfl⟩ ht
      | _ => exact q
/-! ### are_any_rows, is_rising, are_rows -/
def anyB (n : Int) : PyData → Bool
  | .tuple ds => ds.all (isNum 0 (n - 1))
  | _ => false
def tupZ (d : PyData) : Prop := ∀ ds, d = .tuple ds → ds.length ≤ 1000000
def spAnyRows : Sp := fun vs H Q _ => ∃ (v : V) (d : PyData) (n : Int), vs = [v, .int n] ∧ Is [] H d v ∧ tupZ d ∧ ∀ H', Adv [] H H' → Q (.bl (anyB n d)) H'
theorem ok_are_any_rows (A : All K mg w) : FnOk P w K mg base CX0 3 A.are_any_rows.f A.are_any_rows.fd ["value", "count"] spAnyRows := by
  refine A.are_any_rows.F.ok sc_are_any_rows (fun vs H Q E h => ?_) (fun cdv Ar outer s H vs Q E hr h => ?_)
  · obtain ⟨v, d, n, rfl, _⟩ := h
    rfl
  · obtain ⟨v, d, n, rfl, hv, hz, q⟩ := h
    refine ⟨_, (pss_one (ps_ret (pe_and (pe_callB call_isi (by rfl) A.T.isinstance (by decide +kernel) (pa_cons (pv 0) (pa_cons (pe_bltn (v := .ty "tuple") (by rfl) A.T.tuple (by decide +kernel) rfl) pa_nil))) (pe_one (pe_callB (cr_all rfl) (by rfl) A.T.all (by decide +kernel) (pa_cons (pe_lc (own := [("item", 2)]) (g := (gName 2)) rfl sc_are_any_rows.nd (pi_tup (pv 0)) (blkOk_by (own := [("item", 2)]) (N := ["value", "count", "item"]) (sc := defScope s_are_any_rows) (by decide +kernel)) (fun _ _ _ _ _ => pg_name (i := 2) sc_are_any_rows.nd rfl (Or.inl rfl)) (fun _ _ _ _ _ => pts_nil) (fun _ _ _ _ _ => (pe_call (ok_is_between A) (hr.mono (by omega)) rfl A.is_between.m A.is_between.F.kp A.is_between.b .nil pass0 (pa_cons (pv 2) (pa_cons pe_int (pa_cons (pe_op op_sub (pv 1) pe_int) pa_nil)))))) pa_nil)))))), ?_⟩
    refine ⟨_, rfl, _, _, _, _, _, rfl, .ty _, hv.ty A.W, k_tuple d, _, rfl, ?_⟩
    by_cases ht : ∃ ds, d = .tuple ds
    · obtain ⟨ds, rfl⟩ := ht
      have hz := hz ds rfl
      obtain ⟨a, vs, rfl, htp, hs⟩ := hv.tupE
      have hl := hs.len
      refine iteY (by simp [kitD, tyN]) ?_
      refine ⟨_, rfl, a, rfl, ⟨_, htp.sq A.W⟩, fun D nD => ?_⟩
      refine lc_mapT (K := K) (a := a) (xs := vs) (fun i => V.bl (isNum 0 (n - 1) (ds.getD i .none))) nD (htp.sq A.W) (by omega) ?_ ?_
      · intro i x H' acc R hx aH hD k
        obtain ⟨dx, hdx, hisx⟩ := hs.getV hx
        have ed : ds.getD i .none = dx := by rw [List.getD_eq_getElem?_getD, hdx]; rfl
        refine ⟨rfl, x, rfl, _, rfl, n, 1, rfl, rfl, x, dx, 0, n - 1, rfl, (hisx.adv aH), ?_⟩
        have k' := k H' hD aH
        rw [ed] at k'
        exact k'
      · intro H' aH hD
        refine ⟨D, ds.map (isNum 0 (n - 1)), rfl, .inl (.inl ?_), ?_⟩
        · rw [hD, hl, range_map_list]
        · rw [all_id _ (isNum 0 (n - 1)) ds rfl]
          exact q H' aH
    · refine iteN (not_tup ht) ?_
      have q' := q H (Adv.refl _ _)
      cases d with
      | tuple ds => exact absurd ⟨ds, rfl⟩ ht
      | _ => exact q'
def spRising : Sp := fun vs H Q _ => ∃ (a : Addr) (rows : List Nat), vs = [.ref a] ∧ Tp [] H a (nVl rows) ∧ rows.length ≤ 1000000 ∧ ∀ H', Adv [] H H' → Q (.bl (risB (rows.map fun r => ((r : Nat) : Int)))) H'
theorem ok_is_rising (A : All K mg w) : FnOk P w K mg base CX0 1 A.is_rising.f A.is_rising.fd ["values"] spRising := by
  refine A.is_rising.F.ok sc_is_rising (fun vs H Q E h => ?_) (fun cdv Ar outer s H vs Q E hr h => ?_)
  · obtain ⟨a, rows, rfl, _⟩ := h
    rfl
  · obtain ⟨a, rows, rfl, hT, hz, q⟩ := h
    refine ⟨_, (pss_one (ps_ret (pe_callB (cr_all rfl) (by rfl) A.T.all (by decide +kernel) (pa_cons (pe_lc (own := [("k", 1)]) (g := (gName 1)) rfl sc_is_rising.nd (pi_range2 rfl A.T.range (pa_cons pe_int (pa_cons (pe_callB call_len_seq (by rfl) A.T.len PySem.boot_len (pa_cons (pv 0) pa_nil)) pa_nil))) (blkOk_by (own := [("k", 1)]) (N := ["values", "k"]) (sc := defScope s_is_rising) (by decide +kernel)) (fun _ _ _ _ _ => pg_name (i := 1) sc_is_rising.nd rfl (Or.inl rfl)) (fun _ _ _ _ _ => pts_nil) (fun _ _ _ _ _ => (pe_cmpR op_lt (pe_ix (ix_any K rfl) (pv 0) (pe_op op_sub (pv 1) pe_int) (fun _ _ => rfl)) (pe_ix (ix_any K rfl) (pv 0) (pv 1) (fun _ _ => rfl)) (nomark _)))) pa_nil)))), ?_⟩
    have hl : (nVl rows).length = rows.length := by unfold nVl; rw [List.length_map]
    have sq := hT.sq A.W
    refine ⟨_, rfl, a, _, rfl, .inr sq, 1, _, rfl, ⟨by decide, by decide, by omega, by rw [hl]; omega⟩, fun D nD => ?_⟩
    have hn : (((nVl rows).length : Nat) - 1 : Int).toNat = rows.length - 1 := by rw [hl]; omega
    rw [hn]
    have at_ : ∀ (j : Nat) (i : Int), j < rows.length → i = (j : Nat) → atI (nVl rows) i = some (.int (rows.getD j 0 : Nat)) := fun j i hj e => by
      rw [e]
      refine atI_nat (j := j) ?_
      unfold nVl
      simp [hj]
    refine lc_mapRl (fun i => V.bl (decide (((rows.getD i 0 : Nat) : Int) < (rows.getD (i + 1) 0 : Nat)))) nD (by omega) ?_ ?_
    · intro i H' acc R hi aH hD k
      have sq' := SqT.adv aH sq
      refine ⟨rfl, _, rfl, _, rfl, 1 + (i : Int), 1, rfl, rfl, .inr ⟨a, _, _, _, rfl, rfl, sq', at_ i _ (by omega) (by omega), _, rfl, _, rfl, .inr ⟨a, _, _, _, rfl, rfl, sq', at_ (i + 1) _ (by omega) (by omega), _, _, rfl, rfl, k H' hD aH⟩⟩⟩
    · intro H' aH hD
      refine ⟨D, (List.range (rows.length - 1)).map fun i => decide (((rows.getD i 0 : Nat) : Int) < (rows.getD (i + 1) 0 : Nat)), rfl, .inl (.inl ?_), ?_⟩
      · rw [hD, List.map_map]
        rfl
      · have q' := q H' aH
        have e : (List.map (fun i => decide (((rows.getD i 0 : Nat) : Int) < (rows.getD (i + 1) 0 : Nat))) (List.range (rows.length - 1))).all id = risB (rows.map fun r => ((r : Nat) : Int)) := by
          unfold risB
          rw [List.all_map, List.length_map]
          have gd : ∀ j : Nat, (rows.map fun r => ((r : Nat) : Int)).getD j 0 = ((rows.getD j 0 : Nat) : Int) := fun j => by
            rw [List.getD_eq_getElem?_getD, List.getD_eq_getElem?_getD, List.getElem?_map]
            cases rows[j]? <;> rfl
          congr 1
          funext i
          rw [gd, gd]
          rfl
        rw [e]
        exact q'
/-! ### check_logic, check_rows_of -/
def spCheckLogic (L : Addr) : Sp := fun vs H Q E => ∃ (x : Str), vs = [.str x] ∧ (logicOk x = true → Q .non H) ∧ (logicOk x = false → E (.ref L) none H)
theorem ok_check_logic (A : All K mg w) (Z : Exs K mg) (ZL : Er_BadLogic Z) : FnOk P w K mg base (L2N.CX P w) 1 A.check_logic.f A.check_logic.fd ["logic"] (spCheckLogic (Z.cA "BadLogic")) := by
  refine okXN A.check_logic.F sc_check_logic (fun vs H Q E h => ?_) (fun cdv Ar outer s H vs Q E hr h => ?_)
  · obtain ⟨x, rfl, _⟩ := h
    rfl
  · obtain ⟨x, rfl, q1, q2⟩ := h
    obtain ⟨a, ma, ha⟩ := A.C.logics
    refine ⟨_, (pss_one (ps_if (PW.pt (pw_or (pt_not (pt_val (pe_callB call_isi (by rfl) A.T.isinstance (by decide +kernel) (pa_cons (pv 0) (pa_cons (pe_bltn (v := .ty "str") (by rfl) A.T.str (by decide +kernel) rfl) pa_nil))))) (pw_or1 (pt_cmpR op_notIn_seq (pv 0) (pe_glob (v := .ref a) rfl ma rfl) rfl))))
    (pss_one (L2N.ps_raise rfl (L2N.takes_of rfl rfl rfl rfl) (pmk_noargN PySem.F.excBase_ValueError ZL.Q (Z.mA "BadLogic" (by decide)) ZL.K_ (raises_own ZL.B ZL.T) rfl)))
    pss_nil)), ?_⟩
    refine ⟨_, rfl, _, _, _, _, _, rfl, .ty _, (Is.str (M := [])).ty A.W, k_str (.str x), _, rfl, ?_⟩
    refine iteN rfl ?_
    refine ⟨_, rfl, a, _, rfl, .inr (ha H), rfl, by decide, _, rfl, ?_⟩
    have e : inV (.str x) [.str "classical", .str "intuit", .str "k", .str "s4", .str "gl"] = logicOk x := (inV_strs x ["classical", "intuit", "k", "s4", "gl"]).trans (by simp [logicOk, Bool.or_assoc])
    rw [if_pos rfl, e]
    cases hl : logicOk x with
    | true => exact q1 hl
    | false => exact q2 hl
theorem adv_raise {H1 : Hp} {a dx : Addr} {o1 o2 o3 o4 : HO} (na : H1 a = none) (n1 : H1 dx = none) : Adv [] H1 (upd (del (upd (upd (upd H1 a o1) dx o2) a o3) a) dx o4) := fun b o hb eb => by
  have hba : b ≠ a := ne_of_none eb na
  have hbd : b ≠ dx := ne_of_none eb n1
  rw [upd_ne hbd, del_ne hba, upd_ne hba, upd_ne hbd, upd_ne hba]
  exact eb
def spCheckRows (S : Addr) : Sp := fun vs H Q E => ∃ (v : V) (d : PyData) (most : Int) (boxed : Bool), vs = [v, .int most, .bl boxed] ∧ Is [] H d v ∧ 0 ≤ most ∧ (∀ ds, d = .list ds → ds.length ≤ 1000000) ∧
  (wrongD most boxed d = none → ∀ H', Adv [] H H' → Q .non H') ∧ (∀ r, wrongD most boxed d = some r → ∀ dd H', Adv [] H H' → H dd = none → H' dd = some (.xd [("row", .int r)]) → E (.ref S) (some dd) H')
theorem ok_check_rows_of (A : All K mg w) (Z : Exs K mg) (Z1 : Er_BadSheet Z) : FnOk P w K mg base (L2N.CX P w) 5 A.check_rows_of.f A.check_rows_of.fd ["sheet", "most", "boxed"] (spCheckRows (Z.cA "BadSheet")) := by
  refine okXN A.check_rows_of.F sc_check_rows_of (fun vs H Q E h => ?_) (fun cdv Ar outer s H vs Q E hr h => ?_)
  · obtain ⟨v, d, most, boxed, rfl, _⟩ := h
    rfl
  · obtain ⟨v, d, most, boxed, rfl, hv, h0, hl, q1, q2⟩ := h
    refine ⟨_, (pss_cons (ps_set (i := 3) sc_check_rows_of.nd rfl (Or.inl rfl) (pe_call (ok_wrong_row A) (hr.mono (by omega)) rfl A.wrong_row.m A.wrong_row.F.kp A.wrong_row.b .nil pass0 (pa_cons (pv 0) (pa_cons (pv 1) (pa_cons (pv 2) pa_nil)))))
  (pss_one (ps_if (pt_cmpR op_notN (pv 3) pe_non (nomark _))
    (pss_one (L2N.ps_raise rfl (L2N.takes_of rfl rfl rfl rfl) (pmk_initN Z1.O Z1.I Z1.T (ok_BadSheet Z1) (hr.mono (by omega)) Z1.b .nil pass0 rfl (Z.mA "BadSheet" (by decide)) (pa_cons (pv 3) pa_nil))))
    pss_nil))), ?_⟩
    walk_at "rd"
    refine ⟨v, d, most, boxed, rfl, hv, h0, hl, fun H1 a1 => ?_⟩
    walk_at "rd"
    cases e : wrongD most boxed d with
    | none => exact iteN (by decide) (q1 e H1 a1)
    | some r =>
      refine iteY (by simp [resV]) ?_
      refine ⟨_, rfl, Nat.le_of_ble_eq_true rfl, fun a na => ⟨a, .int r, rfl, upd_same, fun dx n1 n2 => ⟨rfl, dx, [("row", .int r)], upd_same, ?_, ?_, ?_⟩⟩⟩
      · rw [upd_ne n2, upd_same]
      · rw [upd_ne n2] at n1
        exact n1
      · have n1' : H1 dx = none := by rw [upd_ne n2] at n1; exact n1
        exact q2 r e dx _ (a1.trans (adv_raise na n1')) (a1.free (by simp) n1') upd_same
theorem any_rows {n : Int} {d : PyData} (h : anyB n d = true) : ∃ rows : List Nat, d = .tuple (nD rows) ∧ ∀ r ∈ rows, (r : Int) < n := by
  cases d with
  | tuple ds =>
    obtain ⟨rows, rfl, h2⟩ := all_nat (n := n) h
    exact ⟨rows, rfl, h2⟩
  | _ => cases h
theorem rowsB_any {n : Int} {d : PyData} (h : anyB n d = false) : rowsB n d = false := by
  cases d with
  | tuple ds =>
    have h : ds.all (isNum 0 (n - 1)) = false := h
    show (ds.all (isNum 0 (n - 1)) && _) = false
    rw [h, Bool.false_and]
  | _ => rfl
theorem rowsB_ris {n : Int} {rows : List Nat} (h : anyB n (.tuple (nD rows)) = true) : rowsB n (.tuple (nD rows)) = risB (rows.map fun r => ((r : Nat) : Int)) := by
  have h : (nD rows).all (isNum 0 (n - 1)) = true := h
  show ((nD rows).all (isNum 0 (n - 1)) && risB ((nD rows).map LL.intD)) = _
  rw [h, Bool.true_and, nD_int]
/-! ### are_rows -/
def spAreRows : Sp := fun vs H Q _ => ∃ (v : V) (d : PyData) (n : Int), vs = [v, .int n] ∧ Is [] H d v ∧ tupZ d ∧ ∀ H', Adv [] H H' → Q (.bl (rowsB n d)) H'
theorem ok_are_rows (A : All K mg w) : FnOk P w K mg base CX0 4 A.are_rows.f A.are_rows.fd ["value", "count"] spAreRows := by
  refine A.are_rows.F.ok sc_are_rows (fun vs H Q E h => ?_) (fun cdv Ar outer s H vs Q E hr h => ?_)
  · obtain ⟨v, d, n, rfl, _⟩ := h
    rfl
  · obtain ⟨v, d, n, rfl, hv, hz, q⟩ := h
    refine ⟨_, (pss_one (ps_ret (pe_and (pe_call (ok_are_any_rows A) (hr.mono (by omega)) rfl A.are_any_rows.m A.are_any_rows.F.kp A.are_any_rows.b .nil pass0 (pa_cons (pv 0) (pa_cons (pv 1) pa_nil))) (pe_one (pe_call (ok_is_rising A) (hr.mono (by omega)) rfl A.is_rising.m A.is_rising.F.kp A.is_rising.b .nil pass0 (pa_cons (pv 0) pa_nil)))))), ?_⟩
    walk_at "rd"
    refine ⟨v, d, n, rfl, hv, hz, fun H1 a1 => ?_⟩
    walk_at "rd"
    cases e : anyB n d with
    | false =>
      refine iteN rfl ?_
      have q' := q H1 a1
      rw [rowsB_any e] at q'
      exact q'
    | true =>
      obtain ⟨rows, rfl, hr⟩ := any_rows e
      refine iteY rfl ?_
      obtain ⟨a, vs, rfl, htp, hs⟩ := hv.tupE
      have hl := hz _ rfl
      rw [show (nD rows).length = rows.length from List.length_map ..] at hl
      rw [nD_of hs] at htp
      walk_at "rd"
      refine ⟨a, rows, rfl, htp.adv a1, hl, fun H2 a2 => ?_⟩
      have q' := q H2 (a1.trans a2)
      rw [rowsB_ris e] at q'
      exact q'
/-! ### check_claim_to -/
abbrev cw (c : Str) (x : PyData) : Option (Str × PyData) := some (c, x)
/-- what is wrong with a claim over a sheet of at most m rows -/
def claimM (m : Int) (b : Bool) : PyData → Option (Str × PyData)
  | .tuple [sh, th, le, ri] =>
    match wrongD m b sh with
    | some i => some ("BadSheet", .int i)
    | none => if (rowsB (lenD sh) th && (b || emptyT th)) = false then some ("BadClaim", .str "theory") else if rowsB (lenD sh) le = false then some ("BadClaim", .str "left") else if rowsB (lenD sh) ri = false then some ("BadClaim", .str "right") else none
  | _ => some ("BadClaim", .str "claim")
structure ClmP (cL cS cC : Addr) (m : Int) (x : Str) (v : V) (H : Hp) (Q : VK) (E : XK) : Prop where
  ex : ∃ d : PyData, Is [] H d v ∧ sz d ≤ 1000000 ∧ (logicOk x = false → E (.ref cL) none H) ∧ (logicOk x = true →
    (∀ i, claimM m (logicB x) d = cw "BadSheet" (.int i) → ∀ dd H', Adv [] H H' → H dd = none → H' dd = some (.xd [("row", .int i)]) → E (.ref cS) (some dd) H') ∧
    (∀ z, claimM m (logicB x) d = cw "BadClaim" (.str z) → ∀ dd H', Adv [] H H' → H dd = none → H' dd = some (.xd [("word", .str z)]) → E (.ref cC) (some dd) H') ∧
    (claimM m (logicB x) d = none → ∀ H', Adv [] H H' → Q .non H'))
def spClaimTo (cL cS cC : Addr) : Sp := fun vs H Q E => ∃ x v m, vs = [.str x, v, .int m] ∧ 0 ≤ m ∧ ClmP cL cS cC m x v H Q E
theorem four_not {m : Int} {b : Bool} {d : PyData} (h : tupN 4 d = false) : claimM m b d = cw "BadClaim" (.str "claim") := by
  unfold claimM
  split
  · simp [tupN] at h
  · rfl
theorem four_yes {d : PyData} (h : tupN 4 d = true) : ∃ a b c e, d = .tuple [a, b, c, e] := by
  cases d with
  | tuple ds =>
    have h : (ds.length : Int) = 4 := of_decide_eq_true h
    match ds, h with
    | [a, b, c, e], _ => exact ⟨a, b, c, e, rfl⟩
  | _ => cases h
theorem lay_nD : ∀ rows : List Nat, PyData.canLayAll0 (nD rows) = true
  | [] => rfl
  | r :: rows => by
    show PyData.canLayAll0 (.int (r : Nat) :: nD rows) = true
    unfold PyData.canLayAll0
    rw [lay_nD rows]
    rfl
theorem depth_nD : ∀ rows : List Nat, PyData.depthAll (nD rows) ≤ 1
  | [] => Nat.zero_le _
  | r :: rows => by
    show PyData.depthAll (.int (r : Nat) :: nD rows) ≤ 1
    unfold PyData.depthAll
    have := depth_nD rows
    have : PyData.depth (.int (r : Nat)) ≤ 1 := by unfold PyData.depth; omega
    omega
theorem shaped_nD (rows : List Nat) : SeqAt.shaped (.tuple (nD rows)) = true := by
  unfold SeqAt.shaped PyData.canLay0
  rw [lay_nD, Bool.true_and]
  have := depth_nD rows
  unfold PyData.depth
  simp
  omega
theorem dp_nD {H : Hp} : ∀ rows : List Nat, DpAll K H (nVl rows) (nD rows)
  | [] => .nil
  | r :: rows => .cons (.int _) (dp_nD rows)
theorem eqv_nil (rows : List Nat) : PyData.eqv (.tuple (nD rows)) (.tuple []) = rows.isEmpty := by
  cases rows with
  | nil => rfl
  | cons r rows => rfl
theorem IsDs.four {M : List Addr} {H : Hp} {a b c d : PyData} {vs : List V} (h : IsDs M H [a, b, c, d] vs) : ∃ va vb vc vd, vs = [va, vb, vc, vd] ∧ Is M H a va ∧ Is M H b vb ∧ Is M H c vc ∧ Is M H d vd := by
  unfold IsDs at h
  obtain ⟨va, ws, rfl, h1, h⟩ := h
  unfold IsDs at h
  obtain ⟨vb, ws, rfl, h2, h⟩ := h
  unfold IsDs at h
  obtain ⟨vc, ws, rfl, h3, h⟩ := h
  unfold IsDs at h
  obtain ⟨vd, ws, rfl, h4, h⟩ := h
  unfold IsDs at h
  subst h
  exact ⟨va, vb, vc, vd, rfl, h1, h2, h3, h4⟩
theorem cw_sheet {m : Int} {bx : Bool} {a b c d : PyData} {i : Int} (e : wrongD m bx a = some i) : claimM m bx (.tuple [a, b, c, d]) = cw "BadSheet" (.int i) := by
  show (match wrongD m bx a with | some i => _ | none => _) = _
  rw [e]
theorem cw_next {m : Int} {bx : Bool} {a b c d : PyData} (e : wrongD m bx a = none) : claimM m bx (.tuple [a, b, c, d]) = if (rowsB (lenD a) b && (bx || emptyT b)) = false then cw "BadClaim" (.str "theory") else if rowsB (lenD a) c = false then cw "BadClaim" (.str "left") else if rowsB (lenD a) d = false then cw "BadClaim" (.str "right") else none := by
  show (match wrongD m bx a with | some i => _ | none => _) = _
  rw [e]
theorem sz_four {a b c d : PyData} (h : sz (.tuple [a, b, c, d]) ≤ 1000000) : sz a ≤ 1000000 ∧ sz b ≤ 1000000 ∧ sz c ≤ 1000000 ∧ sz d ≤ 1000000 := by
  rw [sz_tup, szL_cons, szL_cons, szL_cons, szL_cons, szL_nil] at h
  omega
theorem sz_tupZ {d : PyData} (h : sz d ≤ 1000000) : tupZ d := fun ds e => by
  subst e
  have := szL_len ds
  rw [sz_tup] at h
  omega
theorem sz_lstZ {d : PyData} (h : sz d ≤ 1000000) : ∀ ds, d = .list ds → ds.length ≤ 1000000 := fun ds e => by
  subst e
  have := szL_len ds
  rw [sz_lst] at h
  omega
theorem ok_check_claim_to (A : All K mg w) (Z : Exs K mg) (ZL : Er_BadLogic Z) (Z1 : Er_BadSheet Z) (Z3 : Er_BadClaim Z) : FnOk P w K mg base (L2N.CX P w) 6 A.check_claim_to.f A.check_claim_to.fd ["logic", "claim", "most"] (spClaimTo (Z.cA "BadLogic") (Z.cA "BadSheet") (Z.cA "BadClaim")) := by
  refine okXN A.check_claim_to.F sc_check_claim_to (fun vs H Q E h => ?_) (fun cdv Ar outer s H vs Q E hr h => ?_)
  · obtain ⟨x, v, m, rfl, _⟩ := h
    rfl
  · obtain ⟨x, v, m, rfl, hm, X⟩ := h
    obtain ⟨d, hv, hz, qL, q0⟩ := X.ex
    refine ⟨_, (pss_cons (ps_expr (pe_callS (ok_check_logic A Z ZL) (hr.mono (by omega)) rfl A.check_logic.m A.check_logic.F.kp A.check_logic.b (L2N.passAt (L2N.takes_of rfl rfl rfl rfl)) (pa_cons (pv 0) pa_nil)))
  (pss_cut (ps_if (pt_not (pt_val (pe_call (ok_is_tuple_of A) (hr.mono (by omega)) rfl A.is_tuple_of.m A.is_tuple_of.F.kp A.is_tuple_of.b .nil pass0 (pa_cons (pv 1) (pa_cons pe_int pa_nil)))))
    (pss_one (L2N.ps_raise rfl (L2N.takes_of rfl rfl rfl rfl) (pmk_initN Z3.O Z3.I Z3.T (ok_BadClaim Z3) (hr.mono (by omega)) Z3.b .nil pass0 rfl (Z.mA "BadClaim" (by decide)) (pa_cons pe_str pa_nil))))
    pss_nil)
  (pss_cons (ps_asg (pv 1) (pg_tup rfl (pgs_cons (pg_name (i := 3) sc_check_claim_to.nd rfl (Or.inl rfl)) (pgs_cons (pg_name (i := 4) sc_check_claim_to.nd rfl (Or.inl rfl)) (pgs_cons (pg_name (i := 5) sc_check_claim_to.nd rfl (Or.inl rfl)) (pgs_cons (pg_name (i := 6) sc_check_claim_to.nd rfl (Or.inl rfl)) pgs_nil))))))
  (pss_cons (ps_expr (pe_callS (ok_check_rows_of A Z Z1) (hr.mono (by omega)) rfl A.check_rows_of.m A.check_rows_of.F.kp A.check_rows_of.b (L2N.passAt (L2N.takes_of rfl rfl rfl rfl)) (pa_cons (pv 3) (pa_cons (pv 2) (pa_cons (pe_call (ok_is_boxed A) (hr.mono (by omega)) rfl A.is_boxed.m A.is_boxed.F.kp A.is_boxed.b .nil pass0 (pa_cons (pv 0) pa_nil)) pa_nil)))))
  (pss_cut (ps_if (PW.pt (pw_or (pt_not (pt_val (pe_call (ok_are_rows A) (hr.mono (by omega)) rfl A.are_rows.m A.are_rows.F.kp A.are_rows.b .nil pass0 (pa_cons (pv 4) (pa_cons (pe_callB call_len_seq (by rfl) A.T.len PySem.boot_len (pa_cons (pv 3) pa_nil)) pa_nil))))) (pw_or1 (PW.pt (pw_and (pt_cmpR (op_neD hr.units) (pv 4) (pe_tup pa_nil) (nomark _)) (pw_and1 (pt_not (pt_val (pe_call (ok_is_boxed A) (hr.mono (by omega)) rfl A.is_boxed.m A.is_boxed.F.kp A.is_boxed.b .nil pass0 (pa_cons (pv 0) pa_nil))))))))))
    (pss_one (L2N.ps_raise rfl (L2N.takes_of rfl rfl rfl rfl) (pmk_initN Z3.O Z3.I Z3.T (ok_BadClaim Z3) (hr.mono (by omega)) Z3.b .nil pass0 rfl (Z.mA "BadClaim" (by decide)) (pa_cons pe_str pa_nil))))
    pss_nil)
  (pss_cut (ps_if (pt_not (pt_val (pe_call (ok_are_rows A) (hr.mono (by omega)) rfl A.are_rows.m A.are_rows.F.kp A.are_rows.b .nil pass0 (pa_cons (pv 5) (pa_cons (pe_callB call_len_seq (by rfl) A.T.len PySem.boot_len (pa_cons (pv 3) pa_nil)) pa_nil)))))
    (pss_one (L2N.ps_raise rfl (L2N.takes_of rfl rfl rfl rfl) (pmk_initN Z3.O Z3.I Z3.T (ok_BadClaim Z3) (hr.mono (by omega)) Z3.b .nil pass0 rfl (Z.mA "BadClaim" (by decide)) (pa_cons pe_str pa_nil))))
    pss_nil)
  (pss_one (ps_if (pt_not (pt_val (pe_call (ok_are_rows A) (hr.mono (by omega)) rfl A.are_rows.m A.are_rows.F.kp A.are_rows.b .nil pass0 (pa_cons (pv 6) (pa_cons (pe_callB call_len_seq (by rfl) A.T.len PySem.boot_len (pa_cons (pv 3) pa_nil)) pa_nil)))))
    (pss_one (L2N.ps_raise rfl (L2N.takes_of rfl rfl rfl rfl) (pmk_initN Z3.O Z3.I Z3.T (ok_BadClaim Z3) (hr.mono (by omega)) Z3.b .nil pass0 rfl (Z.mA "BadClaim" (by decide)) (pa_cons pe_str pa_nil))))
    pss_nil)))))))), ?_⟩
    walk_at "rd"
    refine ⟨x, rfl, fun hx => ?_, qL⟩
    obtain ⟨q1, q2, q3⟩ := q0 hx
    generalize hb : logicB x = bx at q1 q2 q3
    walk_at "rd"
    refine ⟨fun σ' H' => H' = H ∧ tupN 4 d = true ∧ σ' = [some (.str x), some v, some (.int m), none, none, none, none], ?_, ?_⟩
    · walk_at "rd"
      refine ⟨v, d, 4, rfl, hv, ?_⟩
      walk_at "rd"
      cases e : tupN 4 d with
      | false =>
        refine iteY rfl ?_
        refine ⟨Nat.le_of_ble_eq_true rfl, fun a na => ⟨a, .str "claim", rfl, upd_same, fun dx n1 n2 => ⟨rfl, dx, [("word", .str "claim")], upd_same, ?_, ?_, ?_⟩⟩⟩
        · rw [upd_ne n2, upd_same]
        · rw [upd_ne n2] at n1
          exact n1
        · have n1' : H dx = none := by rw [upd_ne n2] at n1; exact n1
          exact q2 "claim" (four_not e) dx _ (adv_raise na n1') n1' upd_same
      | true =>
        refine iteN rfl ?_
        walk_at "rd"
        exact rfl
    · rintro σ' H1 ⟨rfl, e4, rfl⟩
      obtain ⟨da, db, dc, de, rfl⟩ := four_yes e4
      obtain ⟨z1, z2, z3, z4⟩ := sz_four hz
      obtain ⟨t, vs, rfl, htp, hs⟩ := hv.tupE
      obtain ⟨va, vb, vc, ve, rfl, ha, hb', hc, he⟩ := IsDs.four hs
      have sq := htp.sq A.W
      walk_at "rd"
      refine rd_gtup sq rfl ?_
      walk_at "rd"
      refine ⟨x, rfl, fun H2 a2 => ?_⟩
      rw [hb]
      walk_at "rd"
      refine ⟨va, da, m, bx, rfl, ha.adv a2, hm, sz_lstZ z1, fun e H3 a3 => ?_, fun r e dd H3 a3 n3 h3 => q1 r (cw_sheet e) dd H3 (a2.trans a3) (a2.free (by simp) n3) h3⟩
      have a13 := a2.trans a3
      obtain ⟨ns, rfl, ok, hl⟩ := wrongD_none hm e
      obtain ⟨sh, rs, rfl, _, hsh, rd⟩ := ha.lstE
      have hrl := rd.len
      rw [List.length_map] at hrl
      have el : lenD (.list (ns.map Nd.data)) = ns.length := by show (ns.map Nd.data).length = ns.length; rw [List.length_map]
      have cn := cw_next (b := db) (c := dc) (d := de) e
      rw [el] at cn
      walk_at "rd"
      refine ⟨fun σ' H' => Adv [] H1 H' ∧ (rowsB (ns.length : Nat) db && (bx || emptyT db)) = true ∧ σ' = [some (.str x), some (.ref t), some (.int m), some (.ref sh), some vb, some vc, some ve], ?_, ?_⟩
      · have hsh3 := a13.same _ _ hsh
        walk_at "rd"
        refine ⟨vb, db, (rs.length : Nat), rfl, hb'.adv a13, sz_tupZ z2, fun H4 a4 => ?_⟩
        rw [hrl]
        walk_at "rd"
        cases e1 : rowsB (ns.length : Nat) db with
        | false =>
          refine iteY rfl (iteY rfl ?_)
          refine ⟨Nat.le_of_ble_eq_true rfl, fun a na => ⟨a, .str "theory", rfl, upd_same, fun dx n1 n2 => ⟨rfl, dx, [("word", .str "theory")], upd_same, ?_, ?_, ?_⟩⟩⟩
          · rw [upd_ne n2, upd_same]
          · rw [upd_ne n2] at n1
            exact n1
          · have n1' : H4 dx = none := by rw [upd_ne n2] at n1; exact n1
            exact q2 "theory" (cn.trans (if_pos (by rw [e1]; rfl))) dx _ ((a13.trans a4).trans (adv_raise na n1')) ((a13.trans a4).free (by simp) n1') upd_same
        | true =>
          refine iteN rfl ?_
          obtain ⟨rows, rfl, hr1, hr2⟩ := rows_nat e1
          obtain ⟨tb, us, rfl, htb, hsb⟩ := hb'.tupE
          rw [nD_of hsb] at htb
          walk_at "rd"
          refine ⟨Nat.zero_le _, fun p np => ?_⟩
          have a5 : Adv [] H1 (upd H4 p (.tup [])) := (a13.trans a4).newT np
          refine ⟨_, _, .tup ((htb.adv a5).sq A.W) (dp_nD rows), .tup (SqT.of upd_same) .nil, shaped_nD rows, by decide +kernel, ?_⟩
          rw [eqv_nil]
          walk_at "rd"
          cases rows with
          | nil =>
            refine iteN rfl (iteN rfl ?_)
            walk_at "rd"
            exact ⟨a5, by cases bx <;> rfl, rfl⟩
          | cons r rows =>
            refine iteY rfl ?_
            walk_at "rd"
            refine ⟨x, rfl, fun H6 a6 => ?_⟩
            rw [hb]
            cases bx with
            | true =>
              walk_at "rd"
              exact ⟨a5.trans a6, by rw [Bool.true_or, Bool.and_true], rfl⟩
            | false =>
            walk_at "rd"
            refine ⟨Nat.le_of_ble_eq_true rfl, fun a na => ⟨a, .str "theory", rfl, upd_same, fun dx n1 n2 => ⟨rfl, dx, [("word", .str "theory")], upd_same, ?_, ?_, ?_⟩⟩⟩
            · rw [upd_ne n2, upd_same]
            · rw [upd_ne n2] at n1
              exact n1
            · have n1' : H6 dx = none := by rw [upd_ne n2] at n1; exact n1
              exact q2 "theory" (cn.trans (if_pos (by rw [e1]; rfl))) dx _ ((a5.trans a6).trans (adv_raise na n1')) ((a5.trans a6).free (by simp) n1') upd_same
      · rintro σ' H4 ⟨a4, e1, rfl⟩
        rw [if_neg (by rw [e1]; decide)] at cn
        have hsh4 := a4.same _ _ hsh
        walk_at "rd"
        refine ⟨fun σ' H' => Adv [] H1 H' ∧ rowsB (ns.length : Nat) dc = true ∧ σ' = [some (.str x), some (.ref t), some (.int m), some (.ref sh), some vb, some vc, some ve], ?_, ?_⟩
        · walk_at "rd"
          refine ⟨vc, dc, (rs.length : Nat), rfl, hc.adv a4, sz_tupZ z3, fun H5 a5 => ?_⟩
          rw [hrl]
          walk_at "rd"
          cases e2 : rowsB (ns.length : Nat) dc with
          | false =>
            refine iteY rfl ?_
            refine ⟨Nat.le_of_ble_eq_true rfl, fun a na => ⟨a, .str "left", rfl, upd_same, fun dx n1 n2 => ⟨rfl, dx, [("word", .str "left")], upd_same, ?_, ?_, ?_⟩⟩⟩
            · rw [upd_ne n2, upd_same]
            · rw [upd_ne n2] at n1
              exact n1
            · have n1' : H5 dx = none := by rw [upd_ne n2] at n1; exact n1
              exact q2 "left" (cn.trans (if_pos e2)) dx _ ((a4.trans a5).trans (adv_raise na n1')) ((a4.trans a5).free (by simp) n1') upd_same
          | true =>
            refine iteN rfl ?_
            walk_at "rd"
            exact ⟨a4.trans a5, rfl, rfl⟩
        · rintro σ' H5 ⟨a5, e2, rfl⟩
          rw [if_neg (by rw [e2]; decide)] at cn
          have hsh5 := a5.same _ _ hsh
          walk_at "rd"
          refine ⟨ve, de, (rs.length : Nat), rfl, he.adv a5, sz_tupZ z4, fun H6 a6 => ?_⟩
          rw [hrl]
          walk_at "rd"
          cases e3 : rowsB (ns.length : Nat) de with
          | false =>
            refine iteY rfl ?_
            refine ⟨Nat.le_of_ble_eq_true rfl, fun a na => ⟨a, .str "right", rfl, upd_same, fun dx n1 n2 => ⟨rfl, dx, [("word", .str "right")], upd_same, ?_, ?_, ?_⟩⟩⟩
            · rw [upd_ne n2, upd_same]
            · rw [upd_ne n2] at n1
              exact n1
            · have n1' : H6 dx = none := by rw [upd_ne n2] at n1; exact n1
              exact q2 "right" (cn.trans (if_pos e3)) dx _ ((a5.trans a6).trans (adv_raise na n1')) ((a5.trans a6).free (by simp) n1') upd_same
          | true =>
            refine iteN rfl ?_
            rw [if_neg (by rw [e3]; decide)] at cn
            exact q3 cn _ (a5.trans a6)
/-! ### check_claim -/
def spAnyClaim (cL cS cC : Addr) : Sp := fun vs H Q E => ∃ x v, vs = [.str x, v] ∧ ClmP cL cS cC 5000 x v H Q E
theorem ok_check_any_claim (A : All K mg w) (Z : Exs K mg) (ZL : Er_BadLogic Z) (Z1 : Er_BadSheet Z) (Z3 : Er_BadClaim Z) : FnOk P w K mg base (L2N.CX P w) 7 A.check_any_claim.f A.check_any_claim.fd ["logic", "claim"] (spAnyClaim (Z.cA "BadLogic") (Z.cA "BadSheet") (Z.cA "BadClaim")) := by
  refine okXN A.check_any_claim.F sc_check_any_claim (fun vs H Q E h => ?_) (fun cdv Ar outer s H vs Q E hr h => ?_)
  · obtain ⟨x, v, rfl, _⟩ := h
    rfl
  · obtain ⟨x, v, rfl, X⟩ := h
    obtain ⟨tM, mM⟩ := A.C.mostP
    refine ⟨_, (pss_one (ps_expr (pe_callS (ok_check_claim_to A Z ZL Z1 Z3) (hr.mono (by omega)) rfl A.check_claim_to.m A.check_claim_to.F.kp A.check_claim_to.b (L2N.passAt (L2N.takes_of rfl rfl rfl rfl)) (pa_cons (pv 0) (pa_cons (pv 1) (pa_cons (pe_glob (v := .int 5000) rfl mM ⟨_, rfl⟩) pa_nil)))))), ?_⟩
    walk_at "rd"
    exact ⟨x, v, 5000, rfl, by decide, ⟨X.ex⟩⟩
end

set_option Elab.async false
set_option linter.all false
set_option maxRecDepth 100000
set_option maxHeartbeats 4000000
open PySem PySem.Spec PyProof.Rows L2 LL
open C8 (pss_cut)
section
variable [KW]
variable {P : Program} {w : World} {K : PySem.W.Frag} {mg : Str → Option Value} {base : Heap}
/-! ### is_line -/
def spIsLine : Sp := fun vs H Q _ => ∃ (M : List Addr) (v : V) (d : PyData) (rows at_ : Nat), vs = [v, .int rows, .int at_] ∧ Is M H d v ∧ sz d ≤ 1000000 ∧ ∀ H', Adv [] H H' → Q (.bl (lineB rows at_ d)) H'
theorem IsDs.five {M : List Addr} {H : Hp} {a b c d e : PyData} {vs : List V} (h : IsDs M H [a, b, c, d, e] vs) : ∃ va vb vc vd ve, vs = [va, vb, vc, vd, ve] ∧ Is M H a va ∧ Is M H b vb ∧ Is M H c vc ∧ Is M H d vd ∧ Is M H e ve := by
  unfold IsDs at h
  obtain ⟨va, r, rfl, ha, h⟩ := h
  obtain ⟨vb, vc, vd, ve, rfl, h1, h2, h3, h4⟩ := IsDs.four h
  exact ⟨va, vb, vc, vd, ve, rfl, ha, h1, h2, h3, h4⟩
theorem line_not {rows at_ : Nat} {d : PyData} (h : tupN 5 d = false) : lineB rows at_ d = false := by
  unfold lineB
  split
  · cases h
  · rfl
theorem five_yes {d : PyData} (h : tupN 5 d = true) : ∃ a b c e f, d = .tuple [a, b, c, e, f] := by
  cases d with
  | tuple ds =>
    have e : (ds.length : Int) = 5 := of_decide_eq_true h
    match ds, e with
    | [a, b, c, e, f], _ => exact ⟨a, b, c, e, f, rfl⟩
  | _ => cases h
theorem sz_five {a b c d e : PyData} (h : sz (.tuple [a, b, c, d, e]) ≤ 1000000) : sz a ≤ 1000000 ∧ sz b ≤ 1000000 ∧ sz c ≤ 1000000 ∧ sz d ≤ 1000000 ∧ sz e ≤ 1000000 := by
  simp only [sz_tup, szL_cons, szL_nil] at h
  exact ⟨by omega, by omega, by omega, by omega, by omega⟩
theorem ok_is_line (A : All K mg w) : FnOk P w K mg base CX0 5 A.is_line.f A.is_line.fd ["value", "rows", "at"] spIsLine := by
  refine A.is_line.F.ok sc_is_line (fun vs H Q E h => ?_) (fun cdv Ar outer s H vs Q E hr h => ?_)
  · obtain ⟨M, v, d, rows, at_, rfl, _⟩ := h
    rfl
  · obtain ⟨M, v, d, rows, at_, rfl, hv, hz, q⟩ := h
    obtain ⟨aC, esC, nC, mC, kC, vC⟩ := A.C.counts.ex
    replace hv : Is [] H d v := hv.less (by simp)
    refine ⟨_, (pss_cons (ps_if (PW.pt (pw_or (pt_not (pt_val (pe_call (ok_is_tuple_of A) (hr.mono (by omega)) rfl A.is_tuple_of.m A.is_tuple_of.F.kp A.is_tuple_of.b .nil pass0 (pa_cons (pv 0) (pa_cons pe_int pa_nil))))) (pw_or (pt_not (pt_val (pe_call (ok_are_rows A) (hr.mono (by omega)) rfl A.are_rows.m A.are_rows.F.kp A.are_rows.b .nil pass0 (pa_cons (pe_ix ix_tup (pv 0) pe_int (fun _ _ => rfl)) (pa_cons (pv 1) pa_nil))))) (pw_or1 (pt_not (pt_val (pe_call (ok_are_rows A) (hr.mono (by omega)) rfl A.are_rows.m A.are_rows.F.kp A.are_rows.b .nil pass0 (pa_cons (pe_ix ix_tup (pv 0) pe_int (fun _ _ => rfl)) (pa_cons (pv 1) pa_nil)))))))))
    (pss_one (ps_ret pe_bl))
    pss_nil)
  (pss_cons (ps_asg (pe_slice sl_tupA (pv 0) (po_some pe_int) po_none) (pg_tup rfl (pgs_cons (pg_name (i := 3) sc_is_line.nd rfl (Or.inl rfl)) (pgs_cons (pg_name (i := 4) sc_is_line.nd rfl (Or.inl rfl)) (pgs_cons (pg_name (i := 5) sc_is_line.nd rfl (Or.inl rfl)) pgs_nil)))))
  (pss_cons (ps_if (PW.pt (pw_or (pt_not (pt_val (pe_callB call_isi (by rfl) A.T.isinstance (by decide +kernel) (pa_cons (pv 3) (pa_cons (pe_bltn (v := .ty "str") (by rfl) A.T.str (by decide +kernel) rfl) pa_nil))))) (pw_or (pt_cmpR (op_notIn_kd kC) (pv 3) (pe_glob (v := .ref aC) rfl mC rfl) rfl) (pw_or1 (pt_not (pt_val (pe_call (ok_is_tuple_of A) (hr.mono (by omega)) rfl A.is_tuple_of.m A.is_tuple_of.F.kp A.is_tuple_of.b .nil pass0 (pa_cons (pv 4) (pa_cons (pe_ix ix_kdict (pe_glob (v := .ref aC) rfl mC rfl) (pv 3) (fun _ _ => rfl)) pa_nil)))))))))
    (pss_one (ps_ret pe_bl))
    pss_nil)
  (pss_cons (ps_if (pt_not (pt_val (pe_callB (cr_all rfl) (by rfl) A.T.all (by decide +kernel) (pa_cons (pe_lc (own := [("premise", 6)]) (g := (gName 6)) rfl sc_is_line.nd (pi_tup (pv 4)) (blkOk_by (own := [("premise", 6)]) (N := ["value", "rows", "at", "rule", "premises", "main", "premise"]) (sc := defScope s_is_line) (by decide +kernel)) (fun _ _ _ _ _ => pg_name (i := 6) sc_is_line.nd rfl (Or.inl rfl)) (fun _ _ _ _ _ => pts_nil) (fun _ _ _ _ _ => (pe_call (ok_is_between A) (hr.mono (by omega)) rfl A.is_between.m A.is_between.F.kp A.is_between.b .nil pass0 (pa_cons (pv 6) (pa_cons pe_int (pa_cons (pe_op op_sub (pv 2) pe_int) pa_nil)))))) pa_nil))))
    (pss_one (ps_ret pe_bl))
    pss_nil)
  (pss_cons (ps_if (pt_cmpR op_eq (pv 3) pe_str (nomark _))
    (pss_one (ps_ret (pe_and (pe_call (ok_is_integer A) (hr.mono (by omega)) rfl A.is_integer.m A.is_integer.F.kp A.is_integer.b .nil pass0 (pa_cons (pv 5) pa_nil)) (pe_one (pe_cmpR op_eq (pv 5) (pe_un un_neg pe_int) (nomark _))))))
    pss_nil)
  (pss_one (ps_ret (pe_call (ok_is_between A) (hr.mono (by omega)) rfl A.is_between.m A.is_between.F.kp A.is_between.b .nil pass0 (pa_cons (pv 5) (pa_cons pe_int (pa_cons (pe_op op_sub (pv 1) pe_int) pa_nil))))))))))), ?_⟩
    walk_at "rd"
    refine ⟨v, d, 5, rfl, hv, ?_⟩
    walk_at "rd"
    cases e5 : tupN 5 d with
    | false =>
      refine iteY rfl ?_
      walk_at "rd"
      have := q H (Adv.refl _ _)
      rw [line_not e5] at this
      exact this
    | true =>
    refine iteN (by decide) ?_
    obtain ⟨a, b, c, p, m, rfl⟩ := five_yes e5
    obtain ⟨z1, z2, z3, z4, z5⟩ := sz_five hz
    obtain ⟨t, vs, rfl, htp, hs⟩ := hv.tupE
    obtain ⟨va, vb, vc, vp, vm, rfl, ha, hb, hc, hp, hm⟩ := IsDs.five hs
    rw [line5] at q
    have sq := htp.sq A.W
    walk_at "rd"
    refine ⟨va, a, rows, rfl, ha, sz_tupZ z1, fun H1 a1 => ?_⟩
    walk_at "rd"
    cases ea : rowsB rows a with
    | false =>
      refine iteY rfl (iteY rfl ?_)
      walk_at "rd"
      have := q H1 a1
      rw [ea, Bool.false_and] at this
      exact this
    | true =>
    refine iteN (by decide) ?_
    have sq1 := SqT.adv a1 sq
    walk_at "rd"
    refine ⟨vb, b, rows, rfl, hb.adv a1, sz_tupZ z2, fun H2 a2 => ?_⟩
    have a02 := a1.trans a2
    walk_at "rd"
    cases eb : rowsB rows b with
    | false =>
      refine iteY rfl ?_
      walk_at "rd"
      have := q H2 a02
      rw [ea, eb, Bool.false_and, Bool.true_and] at this
      exact this
    | true =>
    refine iteN (by decide) ?_
    rw [ea, eb, Bool.true_and, Bool.true_and] at q
    have sq2 := SqT.adv a02 sq
    clear sq sq1 a1 a2
    walk_at "rd"
    refine ⟨t, _, rfl, sq2, fun hw => absurd hw (by show ¬ (HT.sIx 5 0 (some 2) = 0 ∧ HT.sIx 5 5 none = 5); decide), fun _ t3 n3 => ?_⟩
    have ec : cutV [va, vb, vc, vp, vm] (some 2) none = [vc, vp, vm] := rfl
    rw [ec]
    have a3 : Adv [] H2 (upd H2 t3 (.tup [vc, vp, vm])) := Adv.new n3
    have h3 : (upd H2 t3 (.tup [vc, vp, vm])) t3 = some (.tup [vc, vp, vm]) := upd_same
    have a03 := a02.trans a3
    generalize (upd H2 t3 (.tup [vc, vp, vm])) = H3 at a3 h3 a03
    clear ec n3 sq2
    have sq3 := SqT.of (K := K) h3
    refine rd_gtup sq3 rfl ?_
    clear sq3 h3 a3
    walk_at "rd"
    refine ⟨_, _, _, _, _, rfl, .ty _, (hc.adv a03).ty A.W, k_str c, ?_⟩
    walk_at "rd"
    by_cases hT : ∃ s, c = .str s
    case neg =>
      have e1 : kitD c "str" = false ∧ tlB rows at_ c p m = false := by
        cases c with
        | str s => exact absurd ⟨s, rfl⟩ hT
        | _ => exact ⟨by simp [kitD, tyN], rfl⟩
      rw [e1.1]
      refine iteY rfl (iteY rfl ?_)
      walk_at "rd"
      have := q H3 a03
      rw [e1.2] at this
      exact this
    obtain ⟨x, rfl⟩ := hT
    refine iteN (by simp [kitD, tyN]) ?_
    obtain rfl := hc.strE
    walk_at "rd"
    have vx := vC x
    rw [cnt_look] at vx
    have et : tlB rows at_ (.str x) p m = (match rlOf x with | some r => rlB rows at_ r p m | none => false) := rfl
    rw [et] at q
    cases er : rlOf x with
    | none =>
      rw [er] at vx q
      refine ⟨x, none, rfl, rfl, vx, _, rfl, iteY rfl (iteY rfl ?_)⟩
      walk_at "rd"
      exact q H3 a03
    | some r =>
    rw [er] at vx q
    obtain ⟨tk, vx⟩ := vx
    have ex := rlOf_some er
    refine ⟨x, _, rfl, rfl, vx, _, rfl, iteN rfl ?_⟩
    walk_at "rd"
    refine ⟨aC, x, .int r.cnt, rfl, rfl, ⟨esC, nC, _, kC.at_, kC.lit, vx, ⟨tk, rfl⟩⟩, ?_⟩
    walk_at "rd"
    refine ⟨vp, p, r.cnt, rfl, hp.adv a03, ?_⟩
    have q1 : ∀ (H' : Hp), Adv [] H H' → Q (.bl (tupN r.cnt p && (premB at_ p && (if r = .no then isNum (-1) (-1) m else isNum 0 ((rows : Int) - 1) m)))) H' := fun H' a => by
      have e : rlB rows at_ r p m = (tupN r.cnt p && (premB at_ p && (if r = .no then isNum (-1) (-1) m else isNum 0 ((rows : Int) - 1) m))) := by cases p <;> rfl
      rw [← e]
      exact q H' a
    clear q vx et
    walk_at "rd"
    cases ec : tupN r.cnt p with
    | false =>
      rw [ec] at q1
      refine iteY rfl ?_
      walk_at "rd"
      exact q1 H3 a03
    | true =>
    rw [ec] at q1
    refine iteN (by decide) ?_
    obtain ⟨ps, rfl⟩ : ∃ ps, p = .tuple ps := by
      cases p with
      | tuple ps => exact ⟨ps, rfl⟩
      | _ => cases ec
    obtain ⟨tp, ws, rfl, htp', hws⟩ := hp.tupE
    have hwl := hws.len
    have hwz := sz_tupZ z4 ps rfl
    have sqw := (htp'.adv a03).sq A.W
    walk_at "rd"
    refine ⟨_, rfl, tp, rfl, ⟨_, sqw⟩, fun D nD => ?_⟩
    refine lc_mapT (K := K) (a := tp) (xs := ws) (fun i => V.bl (isNum 0 ((at_ : Int) - 1) (ps.getD i .none))) nD sqw (by omega) ?_ ?_
    · intro i y H' acc R hx aH hD k
      obtain ⟨dx, hdx, hisx⟩ := hws.getV hx
      have ed : ps.getD i .none = dx := by rw [List.getD_eq_getElem?_getD, hdx]; rfl
      refine ⟨rfl, y, rfl, _, rfl, (at_ : Int), 1, rfl, rfl, y, dx, 0, (at_ : Int) - 1, rfl, (hisx.adv (a03.trans aH)), ?_⟩
      have k' := k H' hD aH
      rw [ed] at k'
      exact k'
    intro H4 a4 hD
    have a04 := a03.trans a4
    rw [hwl, range_map_list] at hD
    refine ⟨D, ps.map (isNum 0 ((at_ : Int) - 1)), rfl, .inl (.inl hD), ?_⟩
    rw [all_id _ (isNum 0 ((at_ : Int) - 1)) ps rfl]
    have q2 : ∀ (H' : Hp), Adv [] H H' → Q (.bl (ps.all (isNum 0 ((at_ : Int) - 1)) && (if r = .no then isNum (-1) (-1) m else isNum 0 ((rows : Int) - 1) m))) H' := q1
    clear q1 hD nD a4 a03 sqw
    walk_at "rd"
    cases ep : ps.all (isNum 0 ((at_ : Int) - 1)) with
    | false =>
      rw [ep] at q2
      refine iteY rfl ?_
      walk_at "rd"
      exact q2 H4 a04
    | true =>
    rw [ep] at q2
    refine iteN (by decide) ?_
    walk_at "rd"
    by_cases en : r = .no
    · have q3 := q2 H4 a04
      rw [if_pos en, Bool.true_and] at q3
      refine iteY (by rw [ex, en]; decide) ?_
      walk_at "rd"
      refine ⟨vm, m, rfl, hm.adv a04, ?_⟩
      refine ⟨_, rfl, iteB (fun e => ?_) (fun e => ?_)⟩
      · obtain ⟨i, rfl⟩ : ∃ i, m = .int i := by
          cases m with
          | int i => exact ⟨i, rfl⟩
          | _ => simp [kitD, tyN] at e
        obtain rfl := hm.intE
        walk_at "rd"
        have e2 : isNum (-1) (-1) (.int i) = decide (V.int i = V.int (-1)) := by
          show (decide (-1 ≤ i) && decide (i ≤ -1)) = _
          by_cases z : i = -1
          · subst z; decide
          · have h1 : decide (V.int i = V.int (-1)) = false := decide_eq_false fun h => z (by injection h)
            rw [h1, Bool.and_eq_false_iff]
            by_cases h2 : -1 ≤ i
            · exact .inr (decide_eq_false (by omega))
            · exact .inl (decide_eq_false h2)
        rw [e2] at q3
        exact q3
      · have e2 : isNum (-1) (-1) m = false := by
          cases m with
          | int i => simp [kitD, tyN] at e
          | _ => rfl
        rw [e2] at q3
        exact q3
    · have q3 := q2 H4 a04
      rw [if_neg en, Bool.true_and] at q3
      refine iteN (by rw [ex]; cases r <;> first | exact absurd rfl en | decide) ?_
      walk_at "rd"
      exact ⟨vm, m, 0, (rows : Int) - 1, rfl, hm.adv a04, q3⟩
end

set_option Elab.async false
set_option linter.all false
set_option maxRecDepth 100000
set_option maxHeartbeats 4000000
open PySem PySem.Spec PyProof.Rows L2 LL
open C8 (pss_cut)
section
variable [KW]
variable {P : Program} {w : World} {K : PySem.W.Frag} {mg : Str → Option Value} {base : Heap}
/-! ### added -/
theorem nd_keys {M : List Addr} {H : Hp} {n : Nd} {vs : List V} (h : IsDs M H (n.keys.map keyDt) vs) : vs = n.keys.map kV := by
  cases n <;> (
    simp only [Nd.keys, List.map_cons, List.map_nil, keyDt] at h ⊢
    unfold IsDs at h)
  all_goals first
    | (obtain ⟨v, r, rfl, h1, h2⟩ := h; unfold IsDs at h2; subst h2; rw [h1.strE]; rfl)
    | (obtain ⟨v, r, rfl, h1, h2⟩ := h; unfold IsDs at h2; obtain ⟨v2, r2, rfl, h3, h4⟩ := h2; unfold IsDs at h4; subst h4; rw [h1.strE, h3.intE]; rfl)
    | (obtain ⟨v, r, rfl, h1, h2⟩ := h; unfold IsDs at h2; obtain ⟨v2, r2, rfl, h3, h4⟩ := h2; unfold IsDs at h4; obtain ⟨v3, r3, rfl, h5, h6⟩ := h4; unfold IsDs at h6; subst h6; rw [h1.strE, h3.intE, h5.intE]; rfl)
def needsNd : Rl → Bool
  | .axm => false | .no => false | .giv => false | .cut => false | _ => true
structure AddP (vs : List V) (H : Hp) (Q : VK) : Prop where
  ex : ∃ (M : List Addr) (sh : Addr) (rs : List V) (ns : List Nd) (r : Rl) (m : Nat), vs = [.ref sh, .str r.str, .int (m : Nat)] ∧ (∀ b ∈ M, H b ≠ none) ∧ H sh = some (.lst rs) ∧ IsDs M H (ns.map Nd.data) rs ∧ m < ns.length ∧ r ≠ .box ∧ (needsNd r = true → fitsK r (ndA ns m) = true) ∧
    ∀ y H', Is M H' (.list ((addF r (ndA ns m) m).map sidesD)) y → Adv [] H H' → Q y H'
def spAdded : Sp := fun vs H Q _ => AddP vs H Q ∨ ∃ (sh : Addr) (i : Int), vs = [.ref sh, .str Rl.no.str, .int i] ∧ ∀ l, H l = none → Q (.ref l) (upd H l (.lst []))
theorem ok_added (A : All K mg w) : FnOk P w K mg base CX0 1 A.added.f A.added.fd ["sheet", "rule", "main"] spAdded := by
  refine A.added.F.ok sc_added (fun vs H Q E h => ?_) (fun cdv Ar outer s H vs Q E hr h => ?_)
  · rcases h with h | ⟨sh, i, rfl, _⟩
    · obtain ⟨M, sh, rs, ns, r, m, rfl, _⟩ := h.ex
      rfl
    · rfl
  · obtain ⟨aC, esC, nC, mC, kC, vC⟩ := A.C.counts.ex
    refine ⟨_, (pss_cons (ps_if (pt_cmpR op_eq (pe_ix ix_kdict (pe_glob (v := .ref aC) rfl mC rfl) (pv 1) (fun _ _ => rfl)) pe_int (nomark _))
    (pss_one (ps_ret (pe_lst pa_nil)))
    pss_nil)
  (pss_cons (ps_if (pt_cmpR op_eq (pv 1) pe_str (nomark _))
    (pss_one (ps_ret (pe_lst (pa_cons (pe_tup (pa_cons (pe_tup (pa_cons (pv 2) pa_nil)) (pa_cons (pe_tup pa_nil) pa_nil))) pa_nil))))
    pss_nil)
  (pss_cons (ps_if (pt_cmpR op_eq (pv 1) pe_str (nomark _))
    (pss_one (ps_ret (pe_lst (pa_cons (pe_tup (pa_cons (pe_tup pa_nil) (pa_cons (pe_tup (pa_cons (pv 2) pa_nil)) pa_nil))) (pa_cons (pe_tup (pa_cons (pe_tup (pa_cons (pv 2) pa_nil)) (pa_cons (pe_tup pa_nil) pa_nil))) pa_nil)))))
    pss_nil)
  (pss_cons (ps_set (i := 3) sc_added.nd rfl (Or.inl rfl) (pe_slice sl_tupA (pe_ix ix_list (pv 0) (pv 2) (fun _ _ => rfl)) (po_some pe_int) po_none))
  (pss_cons (ps_if (PW.pt (pw_or (pt_cmpR op_eq (pv 1) pe_str (nomark _)) (pw_or1 (pt_cmpR op_eq (pv 1) pe_str (nomark _)))))
    (pss_one (ps_ret (pe_lst (pa_cons (pe_tup (pa_cons (pv 3) (pa_cons (pe_tup pa_nil) pa_nil))) pa_nil))))
    pss_nil)
  (pss_cons (ps_if (pt_cmpR op_eq (pv 1) pe_str (nomark _))
    (pss_one (ps_ret (pe_lst (pa_cons (pe_tup (pa_cons (pe_slice sl_tupA (pv 3) po_none (po_some pe_int)) (pa_cons (pe_tup pa_nil) pa_nil))) (pa_cons (pe_tup (pa_cons (pe_slice sl_tupA (pv 3) (po_some pe_int) po_none) (pa_cons (pe_tup pa_nil) pa_nil))) pa_nil)))))
    pss_nil)
  (pss_cons (ps_if (pt_cmpR op_eq (pv 1) pe_str (nomark _))
    (pss_one (ps_ret (pe_lst (pa_cons (pe_tup (pa_cons (pe_tup pa_nil) (pa_cons (pe_slice sl_tupA (pv 3) po_none (po_some pe_int)) pa_nil))) (pa_cons (pe_tup (pa_cons (pe_slice sl_tupA (pv 3) (po_some pe_int) po_none) (pa_cons (pe_tup pa_nil) pa_nil))) pa_nil)))))
    pss_nil)
  (pss_cons (ps_if (pt_cmpR op_eq (pv 1) pe_str (nomark _))
    (pss_one (ps_ret (pe_lst (pa_cons (pe_tup (pa_cons (pe_tup pa_nil) (pa_cons (pe_slice sl_tupA (pv 3) po_none (po_some pe_int)) pa_nil))) (pa_cons (pe_tup (pa_cons (pe_tup pa_nil) (pa_cons (pe_slice sl_tupA (pv 3) (po_some pe_int) po_none) pa_nil))) pa_nil)))))
    pss_nil)
  (pss_cons (ps_if (pt_cmpR op_eq (pv 1) pe_str (nomark _))
    (pss_one (ps_ret (pe_lst (pa_cons (pe_tup (pa_cons (pe_tup pa_nil) (pa_cons (pv 3) pa_nil))) pa_nil))))
    pss_nil)
  (pss_one (ps_ret (pe_lst (pa_cons (pe_tup (pa_cons (pe_slice sl_tupA (pv 3) po_none (po_some pe_int)) (pa_cons (pe_slice sl_tupA (pv 3) (po_some pe_int) po_none) pa_nil))) pa_nil))))))))))))), ?_⟩
    rcases h with h | ⟨sh, i, rfl, q⟩
    case inr =>
      have vx := vC Rl.no.str
      rw [cnt_look, rlOf_str] at vx
      obtain ⟨tk, vx⟩ := vx
      walk_at "rd"
      refine ⟨aC, Rl.no.str, .int 0, rfl, rfl, ⟨esC, nC, _, kC.at_, kC.lit, vx, ⟨tk, rfl⟩⟩, ?_⟩
      walk_at "rd"
      exact ⟨Nat.zero_le _, fun l nl => q l nl⟩
    obtain ⟨M, sh, rs, ns, r, m, rfl, al, hsh, hrs, hm, rb, hk, q⟩ := h.ex
    have vx := vC r.str
    rw [cnt_look, rlOf_str] at vx
    obtain ⟨tk, vx⟩ := vx
    have en : (ns.map Nd.data)[m]? = some (ndA ns m).data := by
      unfold ndA
      rw [List.getElem?_map, List.getElem?_eq_getElem hm]; rfl
    obtain ⟨nv, hnv, hn⟩ := hrs.get en
    walk_at "rd"
    refine ⟨aC, r.str, .int r.cnt, rfl, rfl, ⟨esC, nC, _, kC.at_, kC.lit, vx, ⟨tk, rfl⟩⟩, ?_⟩
    generalize ndA ns m = n at hk q hn
    clear vx vC hrs
    cases r
    · -- axm
      clear hn
      walk_at "rd"
      refine ⟨Nat.zero_le _, fun l nx => ?_⟩
      have ax : Adv [] H (upd H l (.lst [])) := Adv.new nx
      have hl : (upd H l (.lst [])) l = some (.lst []) := upd_same
      have lM : l ∉ M := not_mem_new al nx
      replace al := alloc_adv al ax (by simp)
      have A0 := ax
      generalize (upd H l (.lst [])) = G1 at ax hl al A0
      clear ax nx
      exact q (.ref l) _ (Is.lst hl lM .nil) A0
    · -- no
      clear hn
      walk_at "rd"
      refine ⟨Nat.zero_le _, fun l nx => ?_⟩
      have ax : Adv [] H (upd H l (.lst [])) := Adv.new nx
      have hl : (upd H l (.lst [])) l = some (.lst []) := upd_same
      have lM : l ∉ M := not_mem_new al nx
      replace al := alloc_adv al ax (by simp)
      have A0 := ax
      generalize (upd H l (.lst [])) = G1 at ax hl al A0
      clear ax nx
      exact q (.ref l) _ (Is.lst hl lM .nil) A0
    · -- giv
      clear hn
      walk_at "rd"
      refine ⟨by show 1 ≤ sizeLine; decide, fun p1 nx => ?_⟩
      have ax : Adv [] H (upd H p1 (.tup [.int (m : Nat)])) := Adv.new nx
      have h1 : (upd H p1 (.tup [.int (m : Nat)])) p1 = some (.tup [.int (m : Nat)]) := upd_same
      have p1M : p1 ∉ M := not_mem_new al nx
      replace al := alloc_adv al ax (by simp)
      have A0 := ax
      generalize (upd H p1 (.tup [.int (m : Nat)])) = G1 at ax h1 al A0
      clear ax nx
      walk_at "rd"
      refine ⟨Nat.zero_le _, fun p2 nx => ?_⟩
      have ax : Adv [] G1 (upd G1 p2 (.tup [])) := Adv.new nx
      have h2 : (upd G1 p2 (.tup [])) p2 = some (.tup []) := upd_same
      have p2M : p2 ∉ M := not_mem_new al nx
      replace al := alloc_adv al ax (by simp)
      replace A0 := A0.trans (Adv.nil ax)
      replace h1 := Adv.same ax _ _ h1
      generalize (upd G1 p2 (.tup [])) = G2 at ax h2 al A0 h1
      clear ax nx
      walk_at "rd"
      refine ⟨by show 2 ≤ sizeLine; decide, fun c0 nx => ?_⟩
      have ax : Adv [] G2 (upd G2 c0 (.tup [.ref p1, .ref p2])) := Adv.new nx
      have hc0 : (upd G2 c0 (.tup [.ref p1, .ref p2])) c0 = some (.tup [.ref p1, .ref p2]) := upd_same
      have c0M : c0 ∉ M := not_mem_new al nx
      replace al := alloc_adv al ax (by simp)
      replace A0 := A0.trans (Adv.nil ax)
      replace h1 := Adv.same ax _ _ h1
      replace h2 := Adv.same ax _ _ h2
      generalize (upd G2 c0 (.tup [.ref p1, .ref p2])) = G3 at ax hc0 al A0 h1 h2
      clear ax nx
      walk_at "rd"
      refine ⟨by show 1 ≤ sizeLine; decide, fun l nx => ?_⟩
      have ax : Adv [] G3 (upd G3 l (.lst [.ref c0])) := Adv.new nx
      have hl : (upd G3 l (.lst [.ref c0])) l = some (.lst [.ref c0]) := upd_same
      have lM : l ∉ M := not_mem_new al nx
      replace al := alloc_adv al ax (by simp)
      replace A0 := A0.trans (Adv.nil ax)
      replace h1 := Adv.same ax _ _ h1
      replace h2 := Adv.same ax _ _ h2
      replace hc0 := Adv.same ax _ _ hc0
      generalize (upd G3 l (.lst [.ref c0])) = G4 at ax hl al A0 h1 h2 hc0
      clear ax nx
      exact q (.ref l) _ (Is.lst hl lM (.cons (Is.tup hc0 c0M (.cons (Is.tup h1 p1M (nD_is [m])) (.cons (Is.tup h2 p2M (nD_is [])) .nil))) .nil)) A0
    · -- andL
      obtain ⟨o, j, k, rfl⟩ : ∃ o j k, n = Nd.bin o j k := by
        cases n with
        | bin o j k => exact ⟨o, j, k, rfl⟩
        | _ => cases hk rfl
      obtain ⟨nd, wn, rfl, tn, dn⟩ := hn.tupE
      have ew := nd_keys dn
      subst ew
      clear dn hn
      walk_at "rd"
      refine rd_slM A.W al tn fun T G1 tT ax => ?_
      replace al := alloc_adv al ax (by simp)
      replace tn := tn.adv (Adv.nil ax)
      have A0 := ax
      replace tT : Tp M G1 T [.int (j : Nat), .int (k : Nat)] := tT
      clear ax
      walk_at "rd"
      refine ⟨Nat.zero_le _, fun p2 nx => ?_⟩
      have ax : Adv [] G1 (upd G1 p2 (.tup [])) := Adv.new nx
      have h2 : (upd G1 p2 (.tup [])) p2 = some (.tup []) := upd_same
      have p2M : p2 ∉ M := not_mem_new al nx
      replace al := alloc_adv al ax (by simp)
      replace tn := tn.adv (Adv.nil ax)
      replace A0 := A0.trans (Adv.nil ax)
      replace tT := tT.adv (Adv.nil ax)
      generalize (upd G1 p2 (.tup [])) = G2 at ax h2 al tn A0 tT
      clear ax nx
      walk_at "rd"
      refine ⟨by show 2 ≤ sizeLine; decide, fun c0 nx => ?_⟩
      have ax : Adv [] G2 (upd G2 c0 (.tup [.ref T, .ref p2])) := Adv.new nx
      have hc0 : (upd G2 c0 (.tup [.ref T, .ref p2])) c0 = some (.tup [.ref T, .ref p2]) := upd_same
      have c0M : c0 ∉ M := not_mem_new al nx
      replace al := alloc_adv al ax (by simp)
      replace tn := tn.adv (Adv.nil ax)
      replace A0 := A0.trans (Adv.nil ax)
      replace tT := tT.adv (Adv.nil ax)
      replace h2 := Adv.same ax _ _ h2
      generalize (upd G2 c0 (.tup [.ref T, .ref p2])) = G3 at ax hc0 al tn A0 tT h2
      clear ax nx
      walk_at "rd"
      refine ⟨by show 1 ≤ sizeLine; decide, fun l nx => ?_⟩
      have ax : Adv [] G3 (upd G3 l (.lst [.ref c0])) := Adv.new nx
      have hl : (upd G3 l (.lst [.ref c0])) l = some (.lst [.ref c0]) := upd_same
      have lM : l ∉ M := not_mem_new al nx
      replace al := alloc_adv al ax (by simp)
      replace tn := tn.adv (Adv.nil ax)
      replace A0 := A0.trans (Adv.nil ax)
      replace tT := tT.adv (Adv.nil ax)
      replace h2 := Adv.same ax _ _ h2
      replace hc0 := Adv.same ax _ _ hc0
      generalize (upd G3 l (.lst [.ref c0])) = G4 at ax hl al tn A0 tT h2 hc0
      clear ax nx
      exact q (.ref l) _ (Is.lst hl lM (.cons (Is.tup hc0 c0M (.cons (Is.tp tT (nD_is [j, k])) (.cons (Is.tup h2 p2M (nD_is [])) .nil))) .nil)) A0
    · -- orL
      obtain ⟨o, j, k, rfl⟩ : ∃ o j k, n = Nd.bin o j k := by
        cases n with
        | bin o j k => exact ⟨o, j, k, rfl⟩
        | _ => cases hk rfl
      obtain ⟨nd, wn, rfl, tn, dn⟩ := hn.tupE
      have ew := nd_keys dn
      subst ew
      clear dn hn
      walk_at "rd"
      refine rd_slM A.W al tn fun T G1 tT ax => ?_
      replace al := alloc_adv al ax (by simp)
      replace tn := tn.adv (Adv.nil ax)
      have A0 := ax
      replace tT : Tp M G1 T [.int (j : Nat), .int (k : Nat)] := tT
      clear ax
      walk_at "rd"
      refine rd_slM A.W al tT fun s1 G2 ts1 ax => ?_
      replace al := alloc_adv al ax (by simp)
      replace tn := tn.adv (Adv.nil ax)
      replace A0 := A0.trans (Adv.nil ax)
      replace tT := tT.adv (Adv.nil ax)
      replace ts1 : Tp M G2 s1 [.int (j : Nat)] := ts1
      clear ax
      walk_at "rd"
      refine ⟨Nat.zero_le _, fun p2 nx => ?_⟩
      have ax : Adv [] G2 (upd G2 p2 (.tup [])) := Adv.new nx
      have h2 : (upd G2 p2 (.tup [])) p2 = some (.tup []) := upd_same
      have p2M : p2 ∉ M := not_mem_new al nx
      replace al := alloc_adv al ax (by simp)
      replace tn := tn.adv (Adv.nil ax)
      replace A0 := A0.trans (Adv.nil ax)
      replace tT := tT.adv (Adv.nil ax)
      replace ts1 := ts1.adv (Adv.nil ax)
      generalize (upd G2 p2 (.tup [])) = G3 at ax h2 al tn A0 tT ts1
      clear ax nx
      walk_at "rd"
      refine ⟨by show 2 ≤ sizeLine; decide, fun c0 nx => ?_⟩
      have ax : Adv [] G3 (upd G3 c0 (.tup [.ref s1, .ref p2])) := Adv.new nx
      have hc0 : (upd G3 c0 (.tup [.ref s1, .ref p2])) c0 = some (.tup [.ref s1, .ref p2]) := upd_same
      have c0M : c0 ∉ M := not_mem_new al nx
      replace al := alloc_adv al ax (by simp)
      replace tn := tn.adv (Adv.nil ax)
      replace A0 := A0.trans (Adv.nil ax)
      replace tT := tT.adv (Adv.nil ax)
      replace ts1 := ts1.adv (Adv.nil ax)
      replace h2 := Adv.same ax _ _ h2
      generalize (upd G3 c0 (.tup [.ref s1, .ref p2])) = G4 at ax hc0 al tn A0 tT ts1 h2
      clear ax nx
      walk_at "rd"
      refine rd_slM A.W al tT fun s3 G5 ts3 ax => ?_
      replace al := alloc_adv al ax (by simp)
      replace tn := tn.adv (Adv.nil ax)
      replace A0 := A0.trans (Adv.nil ax)
      replace tT := tT.adv (Adv.nil ax)
      replace ts1 := ts1.adv (Adv.nil ax)
      replace h2 := Adv.same ax _ _ h2
      replace hc0 := Adv.same ax _ _ hc0
      replace ts3 : Tp M G5 s3 [.int (k : Nat)] := ts3
      clear ax
      walk_at "rd"
      refine ⟨Nat.zero_le _, fun p4 nx => ?_⟩
      have ax : Adv [] G5 (upd G5 p4 (.tup [])) := Adv.new nx
      have h4 : (upd G5 p4 (.tup [])) p4 = some (.tup []) := upd_same
      have p4M : p4 ∉ M := not_mem_new al nx
      replace al := alloc_adv al ax (by simp)
      replace tn := tn.adv (Adv.nil ax)
      replace A0 := A0.trans (Adv.nil ax)
      replace tT := tT.adv (Adv.nil ax)
      replace ts1 := ts1.adv (Adv.nil ax)
      replace h2 := Adv.same ax _ _ h2
      replace hc0 := Adv.same ax _ _ hc0
      replace ts3 := ts3.adv (Adv.nil ax)
      generalize (upd G5 p4 (.tup [])) = G6 at ax h4 al tn A0 tT ts1 h2 hc0 ts3
      clear ax nx
      walk_at "rd"
      refine ⟨by show 2 ≤ sizeLine; decide, fun c1 nx => ?_⟩
      have ax : Adv [] G6 (upd G6 c1 (.tup [.ref s3, .ref p4])) := Adv.new nx
      have hc1 : (upd G6 c1 (.tup [.ref s3, .ref p4])) c1 = some (.tup [.ref s3, .ref p4]) := upd_same
      have c1M : c1 ∉ M := not_mem_new al nx
      replace al := alloc_adv al ax (by simp)
      replace tn := tn.adv (Adv.nil ax)
      replace A0 := A0.trans (Adv.nil ax)
      replace tT := tT.adv (Adv.nil ax)
      replace ts1 := ts1.adv (Adv.nil ax)
      replace h2 := Adv.same ax _ _ h2
      replace hc0 := Adv.same ax _ _ hc0
      replace ts3 := ts3.adv (Adv.nil ax)
      replace h4 := Adv.same ax _ _ h4
      generalize (upd G6 c1 (.tup [.ref s3, .ref p4])) = G7 at ax hc1 al tn A0 tT ts1 h2 hc0 ts3 h4
      clear ax nx
      walk_at "rd"
      refine ⟨by show 2 ≤ sizeLine; decide, fun l nx => ?_⟩
      have ax : Adv [] G7 (upd G7 l (.lst [.ref c0, .ref c1])) := Adv.new nx
      have hl : (upd G7 l (.lst [.ref c0, .ref c1])) l = some (.lst [.ref c0, .ref c1]) := upd_same
      have lM : l ∉ M := not_mem_new al nx
      replace al := alloc_adv al ax (by simp)
      replace tn := tn.adv (Adv.nil ax)
      replace A0 := A0.trans (Adv.nil ax)
      replace tT := tT.adv (Adv.nil ax)
      replace ts1 := ts1.adv (Adv.nil ax)
      replace h2 := Adv.same ax _ _ h2
      replace hc0 := Adv.same ax _ _ hc0
      replace ts3 := ts3.adv (Adv.nil ax)
      replace h4 := Adv.same ax _ _ h4
      replace hc1 := Adv.same ax _ _ hc1
      generalize (upd G7 l (.lst [.ref c0, .ref c1])) = G8 at ax hl al tn A0 tT ts1 h2 hc0 ts3 h4 hc1
      clear ax nx
      exact q (.ref l) _ (Is.lst hl lM (.cons (Is.tup hc0 c0M (.cons (Is.tp ts1 (nD_is [j])) (.cons (Is.tup h2 p2M (nD_is [])) .nil))) (.cons (Is.tup hc1 c1M (.cons (Is.tp ts3 (nD_is [k])) (.cons (Is.tup h4 p4M (nD_is [])) .nil))) .nil))) A0
    · -- ifL
      obtain ⟨o, j, k, rfl⟩ : ∃ o j k, n = Nd.bin o j k := by
        cases n with
        | bin o j k => exact ⟨o, j, k, rfl⟩
        | _ => cases hk rfl
      obtain ⟨nd, wn, rfl, tn, dn⟩ := hn.tupE
      have ew := nd_keys dn
      subst ew
      clear dn hn
      walk_at "rd"
      refine rd_slM A.W al tn fun T G1 tT ax => ?_
      replace al := alloc_adv al ax (by simp)
      replace tn := tn.adv (Adv.nil ax)
      have A0 := ax
      replace tT : Tp M G1 T [.int (j : Nat), .int (k : Nat)] := tT
      clear ax
      walk_at "rd"
      refine ⟨Nat.zero_le _, fun p1 nx => ?_⟩
      have ax : Adv [] G1 (upd G1 p1 (.tup [])) := Adv.new nx
      have h1 : (upd G1 p1 (.tup [])) p1 = some (.tup []) := upd_same
      have p1M : p1 ∉ M := not_mem_new al nx
      replace al := alloc_adv al ax (by simp)
      replace tn := tn.adv (Adv.nil ax)
      replace A0 := A0.trans (Adv.nil ax)
      replace tT := tT.adv (Adv.nil ax)
      generalize (upd G1 p1 (.tup [])) = G2 at ax h1 al tn A0 tT
      clear ax nx
      walk_at "rd"
      refine rd_slM A.W al tT fun s2 G3 ts2 ax => ?_
      replace al := alloc_adv al ax (by simp)
      replace tn := tn.adv (Adv.nil ax)
      replace A0 := A0.trans (Adv.nil ax)
      replace tT := tT.adv (Adv.nil ax)
      replace h1 := Adv.same ax _ _ h1
      replace ts2 : Tp M G3 s2 [.int (j : Nat)] := ts2
      clear ax
      walk_at "rd"
      refine ⟨by show 2 ≤ sizeLine; decide, fun c0 nx => ?_⟩
      have ax : Adv [] G3 (upd G3 c0 (.tup [.ref p1, .ref s2])) := Adv.new nx
      have hc0 : (upd G3 c0 (.tup [.ref p1, .ref s2])) c0 = some (.tup [.ref p1, .ref s2]) := upd_same
      have c0M : c0 ∉ M := not_mem_new al nx
      replace al := alloc_adv al ax (by simp)
      replace tn := tn.adv (Adv.nil ax)
      replace A0 := A0.trans (Adv.nil ax)
      replace tT := tT.adv (Adv.nil ax)
      replace h1 := Adv.same ax _ _ h1
      replace ts2 := ts2.adv (Adv.nil ax)
      generalize (upd G3 c0 (.tup [.ref p1, .ref s2])) = G4 at ax hc0 al tn A0 tT h1 ts2
      clear ax nx
      walk_at "rd"
      refine rd_slM A.W al tT fun s3 G5 ts3 ax => ?_
      replace al := alloc_adv al ax (by simp)
      replace tn := tn.adv (Adv.nil ax)
      replace A0 := A0.trans (Adv.nil ax)
      replace tT := tT.adv (Adv.nil ax)
      replace h1 := Adv.same ax _ _ h1
      replace ts2 := ts2.adv (Adv.nil ax)
      replace hc0 := Adv.same ax _ _ hc0
      replace ts3 : Tp M G5 s3 [.int (k : Nat)] := ts3
      clear ax
      walk_at "rd"
      refine ⟨Nat.zero_le _, fun p4 nx => ?_⟩
      have ax : Adv [] G5 (upd G5 p4 (.tup [])) := Adv.new nx
      have h4 : (upd G5 p4 (.tup [])) p4 = some (.tup []) := upd_same
      have p4M : p4 ∉ M := not_mem_new al nx
      replace al := alloc_adv al ax (by simp)
      replace tn := tn.adv (Adv.nil ax)
      replace A0 := A0.trans (Adv.nil ax)
      replace tT := tT.adv (Adv.nil ax)
      replace h1 := Adv.same ax _ _ h1
      replace ts2 := ts2.adv (Adv.nil ax)
      replace hc0 := Adv.same ax _ _ hc0
      replace ts3 := ts3.adv (Adv.nil ax)
      generalize (upd G5 p4 (.tup [])) = G6 at ax h4 al tn A0 tT h1 ts2 hc0 ts3
      clear ax nx
      walk_at "rd"
      refine ⟨by show 2 ≤ sizeLine; decide, fun c1 nx => ?_⟩
      have ax : Adv [] G6 (upd G6 c1 (.tup [.ref s3, .ref p4])) := Adv.new nx
      have hc1 : (upd G6 c1 (.tup [.ref s3, .ref p4])) c1 = some (.tup [.ref s3, .ref p4]) := upd_same
      have c1M : c1 ∉ M := not_mem_new al nx
      replace al := alloc_adv al ax (by simp)
      replace tn := tn.adv (Adv.nil ax)
      replace A0 := A0.trans (Adv.nil ax)
      replace tT := tT.adv (Adv.nil ax)
      replace h1 := Adv.same ax _ _ h1
      replace ts2 := ts2.adv (Adv.nil ax)
      replace hc0 := Adv.same ax _ _ hc0
      replace ts3 := ts3.adv (Adv.nil ax)
      replace h4 := Adv.same ax _ _ h4
      generalize (upd G6 c1 (.tup [.ref s3, .ref p4])) = G7 at ax hc1 al tn A0 tT h1 ts2 hc0 ts3 h4
      clear ax nx
      walk_at "rd"
      refine ⟨by show 2 ≤ sizeLine; decide, fun l nx => ?_⟩
      have ax : Adv [] G7 (upd G7 l (.lst [.ref c0, .ref c1])) := Adv.new nx
      have hl : (upd G7 l (.lst [.ref c0, .ref c1])) l = some (.lst [.ref c0, .ref c1]) := upd_same
      have lM : l ∉ M := not_mem_new al nx
      replace al := alloc_adv al ax (by simp)
      replace tn := tn.adv (Adv.nil ax)
      replace A0 := A0.trans (Adv.nil ax)
      replace tT := tT.adv (Adv.nil ax)
      replace h1 := Adv.same ax _ _ h1
      replace ts2 := ts2.adv (Adv.nil ax)
      replace hc0 := Adv.same ax _ _ hc0
      replace ts3 := ts3.adv (Adv.nil ax)
      replace h4 := Adv.same ax _ _ h4
      replace hc1 := Adv.same ax _ _ hc1
      generalize (upd G7 l (.lst [.ref c0, .ref c1])) = G8 at ax hl al tn A0 tT h1 ts2 hc0 ts3 h4 hc1
      clear ax nx
      exact q (.ref l) _ (Is.lst hl lM (.cons (Is.tup hc0 c0M (.cons (Is.tup h1 p1M (nD_is [])) (.cons (Is.tp ts2 (nD_is [j])) .nil))) (.cons (Is.tup hc1 c1M (.cons (Is.tp ts3 (nD_is [k])) (.cons (Is.tup h4 p4M (nD_is [])) .nil))) .nil))) A0
    · -- boxL
      obtain ⟨j, rfl⟩ : ∃ j, n = Nd.box j := by
        cases n with
        | box j => exact ⟨j, rfl⟩
        | _ => cases hk rfl
      obtain ⟨nd, wn, rfl, tn, dn⟩ := hn.tupE
      have ew := nd_keys dn
      subst ew
      clear dn hn
      walk_at "rd"
      refine rd_slM A.W al tn fun T G1 tT ax => ?_
      replace al := alloc_adv al ax (by simp)
      replace tn := tn.adv (Adv.nil ax)
      have A0 := ax
      replace tT : Tp M G1 T [.int (j : Nat)] := tT
      clear ax
      walk_at "rd"
      refine ⟨Nat.zero_le _, fun p2 nx => ?_⟩
      have ax : Adv [] G1 (upd G1 p2 (.tup [])) := Adv.new nx
      have h2 : (upd G1 p2 (.tup [])) p2 = some (.tup []) := upd_same
      have p2M : p2 ∉ M := not_mem_new al nx
      replace al := alloc_adv al ax (by simp)
      replace tn := tn.adv (Adv.nil ax)
      replace A0 := A0.trans (Adv.nil ax)
      replace tT := tT.adv (Adv.nil ax)
      generalize (upd G1 p2 (.tup [])) = G2 at ax h2 al tn A0 tT
      clear ax nx
      walk_at "rd"
      refine ⟨by show 2 ≤ sizeLine; decide, fun c0 nx => ?_⟩
      have ax : Adv [] G2 (upd G2 c0 (.tup [.ref T, .ref p2])) := Adv.new nx
      have hc0 : (upd G2 c0 (.tup [.ref T, .ref p2])) c0 = some (.tup [.ref T, .ref p2]) := upd_same
      have c0M : c0 ∉ M := not_mem_new al nx
      replace al := alloc_adv al ax (by simp)
      replace tn := tn.adv (Adv.nil ax)
      replace A0 := A0.trans (Adv.nil ax)
      replace tT := tT.adv (Adv.nil ax)
      replace h2 := Adv.same ax _ _ h2
      generalize (upd G2 c0 (.tup [.ref T, .ref p2])) = G3 at ax hc0 al tn A0 tT h2
      clear ax nx
      walk_at "rd"
      refine ⟨by show 1 ≤ sizeLine; decide, fun l nx => ?_⟩
      have ax : Adv [] G3 (upd G3 l (.lst [.ref c0])) := Adv.new nx
      have hl : (upd G3 l (.lst [.ref c0])) l = some (.lst [.ref c0]) := upd_same
      have lM : l ∉ M := not_mem_new al nx
      replace al := alloc_adv al ax (by simp)
      replace tn := tn.adv (Adv.nil ax)
      replace A0 := A0.trans (Adv.nil ax)
      replace tT := tT.adv (Adv.nil ax)
      replace h2 := Adv.same ax _ _ h2
      replace hc0 := Adv.same ax _ _ hc0
      generalize (upd G3 l (.lst [.ref c0])) = G4 at ax hl al tn A0 tT h2 hc0
      clear ax nx
      exact q (.ref l) _ (Is.lst hl lM (.cons (Is.tup hc0 c0M (.cons (Is.tp tT (nD_is [j])) (.cons (Is.tup h2 p2M (nD_is [])) .nil))) .nil)) A0
    · -- andR
      obtain ⟨o, j, k, rfl⟩ : ∃ o j k, n = Nd.bin o j k := by
        cases n with
        | bin o j k => exact ⟨o, j, k, rfl⟩
        | _ => cases hk rfl
      obtain ⟨nd, wn, rfl, tn, dn⟩ := hn.tupE
      have ew := nd_keys dn
      subst ew
      clear dn hn
      walk_at "rd"
      refine rd_slM A.W al tn fun T G1 tT ax => ?_
      replace al := alloc_adv al ax (by simp)
      replace tn := tn.adv (Adv.nil ax)
      have A0 := ax
      replace tT : Tp M G1 T [.int (j : Nat), .int (k : Nat)] := tT
      clear ax
      walk_at "rd"
      refine ⟨Nat.zero_le _, fun p1 nx => ?_⟩
      have ax : Adv [] G1 (upd G1 p1 (.tup [])) := Adv.new nx
      have h1 : (upd G1 p1 (.tup [])) p1 = some (.tup []) := upd_same
      have p1M : p1 ∉ M := not_mem_new al nx
      replace al := alloc_adv al ax (by simp)
      replace tn := tn.adv (Adv.nil ax)
      replace A0 := A0.trans (Adv.nil ax)
      replace tT := tT.adv (Adv.nil ax)
      generalize (upd G1 p1 (.tup [])) = G2 at ax h1 al tn A0 tT
      clear ax nx
      walk_at "rd"
      refine rd_slM A.W al tT fun s2 G3 ts2 ax => ?_
      replace al := alloc_adv al ax (by simp)
      replace tn := tn.adv (Adv.nil ax)
      replace A0 := A0.trans (Adv.nil ax)
      replace tT := tT.adv (Adv.nil ax)
      replace h1 := Adv.same ax _ _ h1
      replace ts2 : Tp M G3 s2 [.int (j : Nat)] := ts2
      clear ax
      walk_at "rd"
      refine ⟨by show 2 ≤ sizeLine; decide, fun c0 nx => ?_⟩
      have ax : Adv [] G3 (upd G3 c0 (.tup [.ref p1, .ref s2])) := Adv.new nx
      have hc0 : (upd G3 c0 (.tup [.ref p1, .ref s2])) c0 = some (.tup [.ref p1, .ref s2]) := upd_same
      have c0M : c0 ∉ M := not_mem_new al nx
      replace al := alloc_adv al ax (by simp)
      replace tn := tn.adv (Adv.nil ax)
      replace A0 := A0.trans (Adv.nil ax)
      replace tT := tT.adv (Adv.nil ax)
      replace h1 := Adv.same ax _ _ h1
      replace ts2 := ts2.adv (Adv.nil ax)
      generalize (upd G3 c0 (.tup [.ref p1, .ref s2])) = G4 at ax hc0 al tn A0 tT h1 ts2
      clear ax nx
      walk_at "rd"
      refine ⟨Nat.zero_le _, fun p3 nx => ?_⟩
      have ax : Adv [] G4 (upd G4 p3 (.tup [])) := Adv.new nx
      have h3 : (upd G4 p3 (.tup [])) p3 = some (.tup []) := upd_same
      have p3M : p3 ∉ M := not_mem_new al nx
      replace al := alloc_adv al ax (by simp)
      replace tn := tn.adv (Adv.nil ax)
      replace A0 := A0.trans (Adv.nil ax)
      replace tT := tT.adv (Adv.nil ax)
      replace h1 := Adv.same ax _ _ h1
      replace ts2 := ts2.adv (Adv.nil ax)
      replace hc0 := Adv.same ax _ _ hc0
      generalize (upd G4 p3 (.tup [])) = G5 at ax h3 al tn A0 tT h1 ts2 hc0
      clear ax nx
      walk_at "rd"
      refine rd_slM A.W al tT fun s4 G6 ts4 ax => ?_
      replace al := alloc_adv al ax (by simp)
      replace tn := tn.adv (Adv.nil ax)
      replace A0 := A0.trans (Adv.nil ax)
      replace tT := tT.adv (Adv.nil ax)
      replace h1 := Adv.same ax _ _ h1
      replace ts2 := ts2.adv (Adv.nil ax)
      replace hc0 := Adv.same ax _ _ hc0
      replace h3 := Adv.same ax _ _ h3
      replace ts4 : Tp M G6 s4 [.int (k : Nat)] := ts4
      clear ax
      walk_at "rd"
      refine ⟨by show 2 ≤ sizeLine; decide, fun c1 nx => ?_⟩
      have ax : Adv [] G6 (upd G6 c1 (.tup [.ref p3, .ref s4])) := Adv.new nx
      have hc1 : (upd G6 c1 (.tup [.ref p3, .ref s4])) c1 = some (.tup [.ref p3, .ref s4]) := upd_same
      have c1M : c1 ∉ M := not_mem_new al nx
      replace al := alloc_adv al ax (by simp)
      replace tn := tn.adv (Adv.nil ax)
      replace A0 := A0.trans (Adv.nil ax)
      replace tT := tT.adv (Adv.nil ax)
      replace h1 := Adv.same ax _ _ h1
      replace ts2 := ts2.adv (Adv.nil ax)
      replace hc0 := Adv.same ax _ _ hc0
      replace h3 := Adv.same ax _ _ h3
      replace ts4 := ts4.adv (Adv.nil ax)
      generalize (upd G6 c1 (.tup [.ref p3, .ref s4])) = G7 at ax hc1 al tn A0 tT h1 ts2 hc0 h3 ts4
      clear ax nx
      walk_at "rd"
      refine ⟨by show 2 ≤ sizeLine; decide, fun l nx => ?_⟩
      have ax : Adv [] G7 (upd G7 l (.lst [.ref c0, .ref c1])) := Adv.new nx
      have hl : (upd G7 l (.lst [.ref c0, .ref c1])) l = some (.lst [.ref c0, .ref c1]) := upd_same
      have lM : l ∉ M := not_mem_new al nx
      replace al := alloc_adv al ax (by simp)
      replace tn := tn.adv (Adv.nil ax)
      replace A0 := A0.trans (Adv.nil ax)
      replace tT := tT.adv (Adv.nil ax)
      replace h1 := Adv.same ax _ _ h1
      replace ts2 := ts2.adv (Adv.nil ax)
      replace hc0 := Adv.same ax _ _ hc0
      replace h3 := Adv.same ax _ _ h3
      replace ts4 := ts4.adv (Adv.nil ax)
      replace hc1 := Adv.same ax _ _ hc1
      generalize (upd G7 l (.lst [.ref c0, .ref c1])) = G8 at ax hl al tn A0 tT h1 ts2 hc0 h3 ts4 hc1
      clear ax nx
      exact q (.ref l) _ (Is.lst hl lM (.cons (Is.tup hc0 c0M (.cons (Is.tup h1 p1M (nD_is [])) (.cons (Is.tp ts2 (nD_is [j])) .nil))) (.cons (Is.tup hc1 c1M (.cons (Is.tup h3 p3M (nD_is [])) (.cons (Is.tp ts4 (nD_is [k])) .nil))) .nil))) A0
    · -- orR
      obtain ⟨o, j, k, rfl⟩ : ∃ o j k, n = Nd.bin o j k := by
        cases n with
        | bin o j k => exact ⟨o, j, k, rfl⟩
        | _ => cases hk rfl
      obtain ⟨nd, wn, rfl, tn, dn⟩ := hn.tupE
      have ew := nd_keys dn
      subst ew
      clear dn hn
      walk_at "rd"
      refine rd_slM A.W al tn fun T G1 tT ax => ?_
      replace al := alloc_adv al ax (by simp)
      replace tn := tn.adv (Adv.nil ax)
      have A0 := ax
      replace tT : Tp M G1 T [.int (j : Nat), .int (k : Nat)] := tT
      clear ax
      walk_at "rd"
      refine ⟨Nat.zero_le _, fun p1 nx => ?_⟩
      have ax : Adv [] G1 (upd G1 p1 (.tup [])) := Adv.new nx
      have h1 : (upd G1 p1 (.tup [])) p1 = some (.tup []) := upd_same
      have p1M : p1 ∉ M := not_mem_new al nx
      replace al := alloc_adv al ax (by simp)
      replace tn := tn.adv (Adv.nil ax)
      replace A0 := A0.trans (Adv.nil ax)
      replace tT := tT.adv (Adv.nil ax)
      generalize (upd G1 p1 (.tup [])) = G2 at ax h1 al tn A0 tT
      clear ax nx
      walk_at "rd"
      refine ⟨by show 2 ≤ sizeLine; decide, fun c0 nx => ?_⟩
      have ax : Adv [] G2 (upd G2 c0 (.tup [.ref p1, .ref T])) := Adv.new nx
      have hc0 : (upd G2 c0 (.tup [.ref p1, .ref T])) c0 = some (.tup [.ref p1, .ref T]) := upd_same
      have c0M : c0 ∉ M := not_mem_new al nx
      replace al := alloc_adv al ax (by simp)
      replace tn := tn.adv (Adv.nil ax)
      replace A0 := A0.trans (Adv.nil ax)
      replace tT := tT.adv (Adv.nil ax)
      replace h1 := Adv.same ax _ _ h1
      generalize (upd G2 c0 (.tup [.ref p1, .ref T])) = G3 at ax hc0 al tn A0 tT h1
      clear ax nx
      walk_at "rd"
      refine ⟨by show 1 ≤ sizeLine; decide, fun l nx => ?_⟩
      have ax : Adv [] G3 (upd G3 l (.lst [.ref c0])) := Adv.new nx
      have hl : (upd G3 l (.lst [.ref c0])) l = some (.lst [.ref c0]) := upd_same
      have lM : l ∉ M := not_mem_new al nx
      replace al := alloc_adv al ax (by simp)
      replace tn := tn.adv (Adv.nil ax)
      replace A0 := A0.trans (Adv.nil ax)
      replace tT := tT.adv (Adv.nil ax)
      replace h1 := Adv.same ax _ _ h1
      replace hc0 := Adv.same ax _ _ hc0
      generalize (upd G3 l (.lst [.ref c0])) = G4 at ax hl al tn A0 tT h1 hc0
      clear ax nx
      exact q (.ref l) _ (Is.lst hl lM (.cons (Is.tup hc0 c0M (.cons (Is.tup h1 p1M (nD_is [])) (.cons (Is.tp tT (nD_is [j, k])) .nil))) .nil)) A0
    · -- ifR
      obtain ⟨o, j, k, rfl⟩ : ∃ o j k, n = Nd.bin o j k := by
        cases n with
        | bin o j k => exact ⟨o, j, k, rfl⟩
        | _ => cases hk rfl
      obtain ⟨nd, wn, rfl, tn, dn⟩ := hn.tupE
      have ew := nd_keys dn
      subst ew
      clear dn hn
      walk_at "rd"
      refine rd_slM A.W al tn fun T G1 tT ax => ?_
      replace al := alloc_adv al ax (by simp)
      replace tn := tn.adv (Adv.nil ax)
      have A0 := ax
      replace tT : Tp M G1 T [.int (j : Nat), .int (k : Nat)] := tT
      clear ax
      walk_at "rd"
      refine rd_slM A.W al tT fun s1 G2 ts1 ax => ?_
      replace al := alloc_adv al ax (by simp)
      replace tn := tn.adv (Adv.nil ax)
      replace A0 := A0.trans (Adv.nil ax)
      replace tT := tT.adv (Adv.nil ax)
      replace ts1 : Tp M G2 s1 [.int (j : Nat)] := ts1
      clear ax
      walk_at "rd"
      refine rd_slM A.W al tT fun s2 G3 ts2 ax => ?_
      replace al := alloc_adv al ax (by simp)
      replace tn := tn.adv (Adv.nil ax)
      replace A0 := A0.trans (Adv.nil ax)
      replace tT := tT.adv (Adv.nil ax)
      replace ts1 := ts1.adv (Adv.nil ax)
      replace ts2 : Tp M G3 s2 [.int (k : Nat)] := ts2
      clear ax
      walk_at "rd"
      refine ⟨by show 2 ≤ sizeLine; decide, fun c0 nx => ?_⟩
      have ax : Adv [] G3 (upd G3 c0 (.tup [.ref s1, .ref s2])) := Adv.new nx
      have hc0 : (upd G3 c0 (.tup [.ref s1, .ref s2])) c0 = some (.tup [.ref s1, .ref s2]) := upd_same
      have c0M : c0 ∉ M := not_mem_new al nx
      replace al := alloc_adv al ax (by simp)
      replace tn := tn.adv (Adv.nil ax)
      replace A0 := A0.trans (Adv.nil ax)
      replace tT := tT.adv (Adv.nil ax)
      replace ts1 := ts1.adv (Adv.nil ax)
      replace ts2 := ts2.adv (Adv.nil ax)
      generalize (upd G3 c0 (.tup [.ref s1, .ref s2])) = G4 at ax hc0 al tn A0 tT ts1 ts2
      clear ax nx
      walk_at "rd"
      refine ⟨by show 1 ≤ sizeLine; decide, fun l nx => ?_⟩
      have ax : Adv [] G4 (upd G4 l (.lst [.ref c0])) := Adv.new nx
      have hl : (upd G4 l (.lst [.ref c0])) l = some (.lst [.ref c0]) := upd_same
      have lM : l ∉ M := not_mem_new al nx
      replace al := alloc_adv al ax (by simp)
      replace tn := tn.adv (Adv.nil ax)
      replace A0 := A0.trans (Adv.nil ax)
      replace tT := tT.adv (Adv.nil ax)
      replace ts1 := ts1.adv (Adv.nil ax)
      replace ts2 := ts2.adv (Adv.nil ax)
      replace hc0 := Adv.same ax _ _ hc0
      generalize (upd G4 l (.lst [.ref c0])) = G5 at ax hl al tn A0 tT ts1 ts2 hc0
      clear ax nx
      exact q (.ref l) _ (Is.lst hl lM (.cons (Is.tup hc0 c0M (.cons (Is.tp ts1 (nD_is [j])) (.cons (Is.tp ts2 (nD_is [k])) .nil))) .nil)) A0
    · exact absurd rfl rb
    · -- cut
      clear hn
      walk_at "rd"
      refine ⟨Nat.zero_le _, fun p1 nx => ?_⟩
      have ax : Adv [] H (upd H p1 (.tup [])) := Adv.new nx
      have h1 : (upd H p1 (.tup [])) p1 = some (.tup []) := upd_same
      have p1M : p1 ∉ M := not_mem_new al nx
      replace al := alloc_adv al ax (by simp)
      have A0 := ax
      generalize (upd H p1 (.tup [])) = G1 at ax h1 al A0
      clear ax nx
      walk_at "rd"
      refine ⟨by show 1 ≤ sizeLine; decide, fun p2 nx => ?_⟩
      have ax : Adv [] G1 (upd G1 p2 (.tup [.int (m : Nat)])) := Adv.new nx
      have h2 : (upd G1 p2 (.tup [.int (m : Nat)])) p2 = some (.tup [.int (m : Nat)]) := upd_same
      have p2M : p2 ∉ M := not_mem_new al nx
      replace al := alloc_adv al ax (by simp)
      replace A0 := A0.trans (Adv.nil ax)
      replace h1 := Adv.same ax _ _ h1
      generalize (upd G1 p2 (.tup [.int (m : Nat)])) = G2 at ax h2 al A0 h1
      clear ax nx
      walk_at "rd"
      refine ⟨by show 2 ≤ sizeLine; decide, fun c0 nx => ?_⟩
      have ax : Adv [] G2 (upd G2 c0 (.tup [.ref p1, .ref p2])) := Adv.new nx
      have hc0 : (upd G2 c0 (.tup [.ref p1, .ref p2])) c0 = some (.tup [.ref p1, .ref p2]) := upd_same
      have c0M : c0 ∉ M := not_mem_new al nx
      replace al := alloc_adv al ax (by simp)
      replace A0 := A0.trans (Adv.nil ax)
      replace h1 := Adv.same ax _ _ h1
      replace h2 := Adv.same ax _ _ h2
      generalize (upd G2 c0 (.tup [.ref p1, .ref p2])) = G3 at ax hc0 al A0 h1 h2
      clear ax nx
      walk_at "rd"
      refine ⟨by show 1 ≤ sizeLine; decide, fun p3 nx => ?_⟩
      have ax : Adv [] G3 (upd G3 p3 (.tup [.int (m : Nat)])) := Adv.new nx
      have h3 : (upd G3 p3 (.tup [.int (m : Nat)])) p3 = some (.tup [.int (m : Nat)]) := upd_same
      have p3M : p3 ∉ M := not_mem_new al nx
      replace al := alloc_adv al ax (by simp)
      replace A0 := A0.trans (Adv.nil ax)
      replace h1 := Adv.same ax _ _ h1
      replace h2 := Adv.same ax _ _ h2
      replace hc0 := Adv.same ax _ _ hc0
      generalize (upd G3 p3 (.tup [.int (m : Nat)])) = G4 at ax h3 al A0 h1 h2 hc0
      clear ax nx
      walk_at "rd"
      refine ⟨Nat.zero_le _, fun p4 nx => ?_⟩
      have ax : Adv [] G4 (upd G4 p4 (.tup [])) := Adv.new nx
      have h4 : (upd G4 p4 (.tup [])) p4 = some (.tup []) := upd_same
      have p4M : p4 ∉ M := not_mem_new al nx
      replace al := alloc_adv al ax (by simp)
      replace A0 := A0.trans (Adv.nil ax)
      replace h1 := Adv.same ax _ _ h1
      replace h2 := Adv.same ax _ _ h2
      replace hc0 := Adv.same ax _ _ hc0
      replace h3 := Adv.same ax _ _ h3
      generalize (upd G4 p4 (.tup [])) = G5 at ax h4 al A0 h1 h2 hc0 h3
      clear ax nx
      walk_at "rd"
      refine ⟨by show 2 ≤ sizeLine; decide, fun c1 nx => ?_⟩
      have ax : Adv [] G5 (upd G5 c1 (.tup [.ref p3, .ref p4])) := Adv.new nx
      have hc1 : (upd G5 c1 (.tup [.ref p3, .ref p4])) c1 = some (.tup [.ref p3, .ref p4]) := upd_same
      have c1M : c1 ∉ M := not_mem_new al nx
      replace al := alloc_adv al ax (by simp)
      replace A0 := A0.trans (Adv.nil ax)
      replace h1 := Adv.same ax _ _ h1
      replace h2 := Adv.same ax _ _ h2
      replace hc0 := Adv.same ax _ _ hc0
      replace h3 := Adv.same ax _ _ h3
      replace h4 := Adv.same ax _ _ h4
      generalize (upd G5 c1 (.tup [.ref p3, .ref p4])) = G6 at ax hc1 al A0 h1 h2 hc0 h3 h4
      clear ax nx
      walk_at "rd"
      refine ⟨by show 2 ≤ sizeLine; decide, fun l nx => ?_⟩
      have ax : Adv [] G6 (upd G6 l (.lst [.ref c0, .ref c1])) := Adv.new nx
      have hl : (upd G6 l (.lst [.ref c0, .ref c1])) l = some (.lst [.ref c0, .ref c1]) := upd_same
      have lM : l ∉ M := not_mem_new al nx
      replace al := alloc_adv al ax (by simp)
      replace A0 := A0.trans (Adv.nil ax)
      replace h1 := Adv.same ax _ _ h1
      replace h2 := Adv.same ax _ _ h2
      replace hc0 := Adv.same ax _ _ hc0
      replace h3 := Adv.same ax _ _ h3
      replace h4 := Adv.same ax _ _ h4
      replace hc1 := Adv.same ax _ _ hc1
      generalize (upd G6 l (.lst [.ref c0, .ref c1])) = G7 at ax hl al A0 h1 h2 hc0 h3 h4 hc1
      clear ax nx
      exact q (.ref l) _ (Is.lst hl lM (.cons (Is.tup hc0 c0M (.cons (Is.tup h1 p1M (nD_is [])) (.cons (Is.tup h2 p2M (nD_is [m])) .nil))) (.cons (Is.tup hc1 c1M (.cons (Is.tup h3 p3M (nD_is [m])) (.cons (Is.tup h4 p4M (nD_is [])) .nil))) .nil))) A0
end

set_option Elab.async false
set_option linter.all false
set_option maxRecDepth 100000
set_option maxHeartbeats 4000000
open PySem PySem.Spec PyProof.Rows L2 LL
open C8 (pss_cut)
section
variable [KW]
variable {P : Program} {w : World} {K : PySem.W.Frag} {mg : Str → Option Value} {base : Heap}
/-! ### keeps_right -/
def spKeepsR : Sp := fun vs H Q _ => ∃ (lg : Str) (r : Rl), vs = [.str lg, .str r.str] ∧ Q (.bl (!(decide (r = .ifR) && decide (lg = "intuit")))) H
theorem ok_keeps_right (A : All K mg w) : FnOk P w K mg base CX0 1 A.keeps_right.f A.keeps_right.fd ["logic", "rule"] spKeepsR := by
  refine A.keeps_right.F.ok sc_keeps_right (fun vs H Q E h => ?_) (fun cdv Ar outer s H vs Q E hr h => ?_)
  · obtain ⟨lg, r, rfl, _⟩ := h
    rfl
  · obtain ⟨lg, r, rfl, q⟩ := h
    refine ⟨_, (pss_one (ps_ret (pe_or (pe_cmpR op_ne (pv 1) pe_str (nomark _)) (pe_one (pe_cmpR op_ne (pv 0) pe_str (nomark _)))))), ?_⟩
    walk_at "rd"
    refine iteB (fun e => ?_) (fun e => ?_)
    · have e1 : decide (r = .ifR) = false := by cases r <;> first | rfl | exact absurd e (by decide)
      rw [e1] at q
      exact q
    · have e1 : decide (r = .ifR) = true := by cases r <;> first | rfl | exact absurd e (by decide)
      rw [e1, Bool.true_and] at q
      walk_at "rd"
      have e2 : (!decide (lg = "intuit")) = !decide (V.str lg = V.str "intuit") := by
        by_cases z : lg = "intuit"
        · rw [z]; decide
        · rw [decide_eq_false z, decide_eq_false fun h => z (by injection h)]
      rw [e2] at q
      exact q
theorem any_nat (a : List Nat) (r : Nat) : (a.any fun x => decide ((x : Int) = (r : Int))) = a.any fun x => decide (x = r) := by
  congr 1
  funext x
  exact decide_eq_decide.mpr ⟨fun e => Int.ofNat.inj e, fun e => by rw [e]⟩
theorem all_idN {α : Type} (l : List α) (f : α → Bool) : (l.map f).all id = l.all f := by rw [List.all_map]; rfl
/-- [row in room for row in rows] -/
theorem all_rows (rows : List Nat) (f : Nat → Bool) : ((List.range rows.length).map fun i => V.bl (f (rows.getD i 0))) = (rows.map f).map V.bl := by
  rw [List.map_map]
  refine List.ext_getElem? fun i => ?_
  rw [List.getElem?_map, List.getElem?_map]
  by_cases h : i < rows.length
  · rw [List.getElem?_range h, List.getElem?_eq_getElem h]
    show some (V.bl (f (rows.getD i 0))) = some (V.bl (f rows[i]))
    rw [List.getD_eq_getElem?_getD, List.getElem?_eq_getElem h]; rfl
  · rw [List.getElem?_eq_none (by rw [List.length_range]; omega), List.getElem?_eq_none (by omega)]; rfl
/-! ### fits -/
structure FitP (vs : List V) (H : Hp) (Q : VK) : Prop where
  ex : ∃ (M : List Addr) (v : V) (l : Ln) (t d1 d2 : Addr) (a b : List Nat), vs = [v, .ref t] ∧ Is M H l.data v ∧ H t = some (.tup [.ref d1, .ref d2]) ∧ SetD H d1 a ∧ SetD H d2 b ∧ l.left.length ≤ 1000000 ∧ l.right.length ≤ 1000000 ∧ ∀ H', Adv [] H H' → Q (.bl (fitB l a b)) H'
def spFits : Sp := fun vs H Q _ => FitP vs H Q
theorem ok_fits (A : All K mg w) : FnOk P w K mg base CX0 1 A.fits.f A.fits.fd ["premise", "room"] spFits := by
  refine A.fits.F.ok sc_fits (fun vs H Q E h => ?_) (fun cdv Ar outer s H vs Q E hr h => ?_)
  · obtain ⟨M, v, l, t, d1, d2, a, b, rfl, _⟩ := h.ex
    rfl
  · obtain ⟨M, v, l, t, d1, d2, a, b, rfl, hv, ht, h1, h2, z1, z2, q⟩ := h.ex
    refine ⟨_, (pss_one (ps_ret (pe_and (pe_callB (cr_all rfl) (by rfl) A.T.all (by decide +kernel) (pa_cons (pe_lc (own := [("row", 2)]) (g := (gName 2)) rfl sc_fits.nd (pi_tup (pe_ix ix_tup (pv 0) pe_int (fun _ _ => rfl))) (blkOk_by (own := [("row", 2)]) (N := ["premise", "room", "row"]) (sc := defScope s_fits) (by decide +kernel)) (fun _ _ _ _ _ => pg_name (i := 2) sc_fits.nd rfl (Or.inl rfl)) (fun _ _ _ _ _ => pts_nil) (fun _ _ _ _ _ => (pe_cmp (pc_din (hu_of hr) (pv 2) (pe_ix (ix_tupK K rfl) (pv 1) pe_int (fun _ _ => rfl)))))) pa_nil)) (pe_one (pe_callB (cr_all rfl) (by rfl) A.T.all (by decide +kernel) (pa_cons (pe_lc (own := [("row", 2)]) (g := (gName 2)) rfl sc_fits.nd (pi_tup (pe_ix ix_tup (pv 0) pe_int (fun _ _ => rfl))) (blkOk_by (own := [("row", 2)]) (N := ["premise", "room", "row"]) (sc := defScope s_fits) (by decide +kernel)) (fun _ _ _ _ _ => pg_name (i := 2) sc_fits.nd rfl (Or.inl rfl)) (fun _ _ _ _ _ => pts_nil) (fun _ _ _ _ _ => (pe_cmp (pc_din (hu_of hr) (pv 2) (pe_ix (ix_tupK K rfl) (pv 1) pe_int (fun _ _ => rfl)))))) pa_nil)))))), ?_⟩
    obtain ⟨lt, us, rfl, htp, hs⟩ := hv.tupE
    obtain ⟨va, vb, vc, vp, vm, rfl, ha, hb, hc, hp, hm⟩ := IsDs.five hs
    obtain ⟨ta, ua, rfl, tpa, ia⟩ := ha.tupE
    obtain ⟨tb, ub, rfl, tpb, ib⟩ := hb.tupE
    obtain rfl := nD_of ia
    obtain rfl := nD_of ib
    have sq := htp.sq A.W
    walk_at "rd"
    unfold tLc iTup
    walk_at "rd"
    refine ⟨ta, rfl, ⟨_, (tpa.adv (Adv.refl _ _)).sq A.W⟩, fun D nD => ?_⟩
    refine lc_mapT (K := K) (a := ta) (xs := nVl l.left) (fun i => V.bl (a.any fun x => decide (x = l.left.getD i 0))) nD ((tpa.adv (Adv.refl _ _)).sq A.W) (by rw [nVl_len]; exact z1) ?_ ?_
    · intro i y H' acc R hx aH hD k
      obtain ⟨r, hr', rfl⟩ := nVl_get hx
      have ed : l.left.getD i 0 = r := by rw [List.getD_eq_getElem?_getD, hr']; rfl
      have hs' := h1.same ((Adv.refl [] H).trans aH)
      have sqt := SqT.of (K := K) (((Adv.refl [] H).trans aH).same _ _ ht)
      refine ⟨rfl, ?_⟩
      walk_at "rd"
      obtain ⟨o, ho, eo⟩ := hs'.get (r : Nat)
      refine ⟨d1, o, rfl, ho, ?_⟩
      have k' := k H' hD aH
      rw [ed, ← any_nat, ← eo] at k'
      exact k'
    intro H1 a1 hD
    rw [nVl_len, all_rows l.left fun r => a.any fun x => decide (x = r)] at hD
    refine ⟨D, l.left.map fun r => a.any fun x => decide (x = r), rfl, .inl (.inl hD), ?_⟩
    rw [all_idN]
    have eq1 : fitB l a b = ((l.left.all fun r => a.any fun x => decide (x = r)) && (l.right.all fun r => b.any fun x => decide (x = r))) := rfl
    rw [eq1] at q
    refine ⟨_, rfl, iteB (fun e => ?_) (fun e => ?_)⟩
    · have sq2 := SqT.adv a1 sq
      clear hD nD
      rw [e, Bool.true_and] at q
      walk_at "rd"
      refine ⟨tb, rfl, ⟨_, (tpb.adv a1.nil).sq A.W⟩, fun D nD => ?_⟩
      refine lc_mapT (K := K) (a := tb) (xs := nVl l.right) (fun i => V.bl (b.any fun x => decide (x = l.right.getD i 0))) nD ((tpb.adv a1.nil).sq A.W) (by rw [nVl_len]; exact z2) ?_ ?_
      · intro i y H' acc R hx aH hD k
        obtain ⟨r, hr', rfl⟩ := nVl_get hx
        have ed : l.right.getD i 0 = r := by rw [List.getD_eq_getElem?_getD, hr']; rfl
        have hs' := h2.same (a1.trans aH)
        have sqt := SqT.of (K := K) ((a1.trans aH).same _ _ ht)
        refine ⟨rfl, ?_⟩
        walk_at "rd"
        obtain ⟨o, ho, eo⟩ := hs'.get (r : Nat)
        refine ⟨d2, o, rfl, ho, ?_⟩
        have k' := k H' hD aH
        rw [ed, ← any_nat, ← eo] at k'
        exact k'
      intro H2 a2 hD
      rw [nVl_len, all_rows l.right fun r => b.any fun x => decide (x = r)] at hD
      refine ⟨D, l.right.map fun r => b.any fun x => decide (x = r), rfl, .inl (.inl hD), ?_⟩
      rw [all_idN]
      exact q H2 (a1.trans a2)
    · have q' := q H1 a1
      rw [e, Bool.false_and] at q'
      exact q'
end

set_option Elab.async false
set_option linter.all false
set_option maxRecDepth 100000
set_option maxHeartbeats 4000000
open PySem PySem.Spec PyProof.Rows L2 LL
open C8 (pss_cut)
/-! ### the class Rules -/
abbrev s_Rules_init : Stmt := inClass (top 35) 0
theorem sc_Rules_init : FnScope ["self", "logic", "sheet", "theory", "row"] ["self", "logic", "sheet", "theory"] (defScope s_Rules_init) := ⟨rfl, rfl, rfl, by decide +kernel, rfl, by decide +kernel, by decide +kernel⟩
abbrev s_Rules_asks_main : Stmt := inClass (top 35) 1
theorem sc_Rules_asks_main : FnScope ["self", "line", "left", "right", "rule", "premises", "main", "row"] ["self", "line"] (defScope s_Rules_asks_main) := ⟨rfl, rfl, rfl, by decide +kernel, rfl, by decide +kernel, by decide +kernel⟩
abbrev s_Rules_box_room : Stmt := inClass (top 35) 2
theorem sc_Rules_box_room : FnScope ["self", "left", "main", "found", "row"] ["self", "left", "main"] (defScope s_Rules_box_room) := ⟨rfl, rfl, rfl, by decide +kernel, rfl, by decide +kernel, by decide +kernel⟩
abbrev s_Rules_rooms : Stmt := inClass (top 35) 3
theorem sc_Rules_rooms : FnScope ["self", "line", "left", "right", "rule", "premises", "main", "found", "more_left", "more_right", "row"] ["self", "line"] (defScope s_Rules_rooms) := ⟨rfl, rfl, rfl, by decide +kernel, rfl, by decide +kernel, by decide +kernel⟩
abbrev s_Rules_is_right : Stmt := inClass (top 35) 4
theorem sc_Rules_is_right : FnScope ["self", "line", "lines", "rooms", "premise", "room"] ["self", "line", "lines"] (defScope s_Rules_is_right) := ⟨rfl, rfl, rfl, by decide +kernel, rfl, by decide +kernel, by decide +kernel⟩
structure Rul (K : PySem.W.Frag) (mg : Str → Option Value) where
  C : Addr
  fI : Addr
  fA : Addr
  fB : Addr
  fR : Addr
  fT : Addr
  dI : FuncData
  dA : FuncData
  dB : FuncData
  dR : FuncData
  dT : FuncData
  m : mg "Rules" = some (.ref C)
  cl : Cls K C
  n1 : NoAttr K C "logic"
  n2 : NoAttr K C "sheet"
  n3 : NoAttr K C "theory"
  mkc : Mk K C fI
  mA : Meth K C "asks_main" fA
  mB : Meth K C "box_room" fB
  mR : Meth K C "rooms" fR
  mT : Meth K C "is_right" fT
  FI : Fun K "__init__" "Rules.__init__" s_Rules_init fI dI
  FA : Fun K "asks_main" "Rules.asks_main" s_Rules_asks_main fA dA
  FB : Fun K "box_room" "Rules.box_room" s_Rules_box_room fB dB
  FR : Fun K "rooms" "Rules.rooms" s_Rules_rooms fR dR
  FT : Fun K "is_right" "Rules.is_right" s_Rules_is_right fT dT
  bI : Binds K dI ["self", "logic", "sheet", "theory"] []
  bA : Binds K dA ["self", "line"] []
  bB : Binds K dB ["self", "left", "main"] []
  bR : Binds K dR ["self", "line"] []
  bT : Binds K dT ["self", "line", "lines"] []
def rfs (lg : Str) (sh td : Addr) : List (Str × V) := [("logic", .str lg), ("sheet", .ref sh), ("theory", .ref td)]
theorem lk_hit {k : Str} {v : V} {r : List (Str × V)} : List.lookup k ((k, v) :: r) = some v := by simp [List.lookup]
theorem lk_miss {k k' : Str} {v : V} {r : List (Str × V)} (h : (k == k') = false) : List.lookup k ((k', v) :: r) = List.lookup k r := by simp [List.lookup, h]
theorem rfs_1 (lg : Str) (sh td : Addr) : (rfs lg sh td).lookup ("logic" : Str) = some (.str lg) := lk_hit
theorem rfs_2 (lg : Str) (sh td : Addr) : (rfs lg sh td).lookup ("sheet" : Str) = some (.ref sh) := (lk_miss (by decide +kernel)).trans lk_hit
theorem rfs_3 (lg : Str) (sh td : Addr) : (rfs lg sh td).lookup ("theory" : Str) = some (.ref td) := (lk_miss (by decide +kernel)).trans ((lk_miss (by decide +kernel)).trans lk_hit)
theorem rfs_no (lg : Str) (sh td : Addr) {m : Str} (h1 : (m == "logic") = false) (h2 : (m == "sheet") = false) (h3 : (m == "theory") = false) : (rfs lg sh td).lookup m = none := (lk_miss h1).trans ((lk_miss h2).trans ((lk_miss h3).trans rfl))
theorem rfs_put (lg : Str) (sh td : Addr) : putF "theory" (.ref td) (putF "sheet" (.ref sh) (putF "logic" (.str lg) [])) = rfs lg sh td := by
  have e1 : putF "logic" (.str lg) [] = [(("logic" : Str), V.str lg)] := rfl
  rw [e1]
  show putF "theory" (.ref td) (if ("logic" : Str) = "sheet" then _ else (("logic" : Str), V.str lg) :: putF "sheet" (.ref sh) []) = _
  rw [if_neg (by decide +kernel)]
  show (if ("logic" : Str) = "theory" then _ else (("logic" : Str), V.str lg) :: putF "theory" (.ref td) [(("sheet" : Str), V.ref sh)]) = _
  rw [if_neg (by decide +kernel)]
  show (("logic" : Str), V.str lg) :: (if ("sheet" : Str) = "theory" then _ else (("sheet" : Str), V.ref sh) :: putF "theory" (.ref td) []) = _
  rw [if_neg (by decide +kernel)]
  rfl
section
variable [KW]
variable {P : Program} {w : World} {K : PySem.W.Frag} {mg : Str → Option Value} {base : Heap}
/-- an instance of Rules -/
structure RuAt (C : Addr) (M : List Addr) (H : Hp) (g : Addr) (lg : Str) (ns : List Nd) (th : List Nat) : Prop where
  ex : ∃ (dx sh td : Addr) (rs : List V), H g = some (.ins C dx (rfs lg sh td)) ∧ H sh = some (.lst rs) ∧ IsDs M H (ns.map Nd.data) rs ∧ SetD H td th
theorem RuAt.adv {C : Addr} {M : List Addr} {H H' : Hp} {g : Addr} {lg : Str} {ns : List Nd} {th : List Nat} (x : RuAt C M H g lg ns th) (a : Adv [] H H') : RuAt C M H' g lg ns th := by
  obtain ⟨dx, sh, td, rs, h1, h2, h3, h4⟩ := x.ex
  exact ⟨⟨dx, sh, td, rs, a.same _ _ h1, a.same _ _ h2, h3.adv a.nil, h4.same a⟩⟩
/-! ### __init__ -/
structure RInitP (C : Addr) (vs : List V) (H : Hp) (Q : VK) : Prop where
  ex : ∃ (M : List Addr) (g dx sh t : Addr) (lg : Str) (rs : List V) (ns : List Nd) (th : List Nat), vs = [.ref g, .str lg, .ref sh, .ref t] ∧ H g = some (.ins C dx []) ∧ g ∉ M ∧ H sh = some (.lst rs) ∧ IsDs (g :: M) H (ns.map Nd.data) rs ∧ Tp (g :: M) H t (nVl th) ∧ th.length ≤ 1000000 ∧
    ∀ H', RuAt C M H' g lg ns th → Adv [g] H H' → Q .non H'
def spRInit (C : Addr) : Sp := fun vs H Q _ => RInitP C vs H Q
theorem ok_r_init (A : All K mg w) (G : Rul K mg) : FnOk P w K mg base CX0 1 G.fI G.dI ["self", "logic", "sheet", "theory"] (spRInit G.C) := by
  refine G.FI.ok sc_Rules_init (fun vs H Q E h => ?_) (fun cdv Ar outer s H vs Q E hr h => ?_)
  · obtain ⟨M, g, dx, sh, t, lg, rs, ns, th, rfl, _⟩ := h.ex
    rfl
  · obtain ⟨M, g, dx, sh, t, lg, rs, ns, th, rfl, hg, gM, hsh, hrs, ht, hz, q⟩ := h.ex
    refine ⟨_, (pss_cons (ps_fld (pv 0) (pv 1) rfl)
  (pss_cons (ps_fld (pv 0) (pv 2) rfl)
  (pss_one (ps_fld (pv 0) (pe_dc (own := [("row", 4)]) (g := gName 4) rfl sc_Rules_init.nd (pi_tup (pv 3)) (blkOk_by (own := [("row", 4)]) (N := ["self", "logic", "sheet", "theory", "row"]) (sc := defScope s_Rules_init) (by decide +kernel)) (fun _ _ _ _ _ => pg_name (i := 4) sc_Rules_init.nd rfl (Or.inl rfl)) (fun _ _ _ _ _ => pts_nil) (fun _ _ _ _ _ => (pv 4)) (fun _ _ _ _ _ => pe_bl)) rfl)))), ?_⟩
    refine ⟨_, rfl, _, rfl, g, G.C, dx, [], rfl, hg, G.cl, G.n1, by decide, ?_⟩
    refine ⟨_, rfl, _, rfl, g, G.C, dx, _, rfl, upd_same, G.cl, G.n2, by show 1 < 1000; decide, ?_⟩
    have a2 : Adv [g] H (upd (upd H g (.ins G.C dx (putF "logic" (.str lg) []))) g (.ins G.C dx (putF "sheet" (.ref sh) (putF "logic" (.str lg) [])))) := (Adv.set (by simp)).trans (Adv.set (by simp))
    have h2 : (upd (upd H g (.ins G.C dx (putF "logic" (.str lg) []))) g (.ins G.C dx (putF "sheet" (.ref sh) (putF "logic" (.str lg) [])))) g = some (.ins G.C dx (putF "sheet" (.ref sh) (putF "logic" (.str lg) []))) := upd_same
    generalize (upd (upd H g (.ins G.C dx (putF "logic" (.str lg) []))) g (.ins G.C dx (putF "sheet" (.ref sh) (putF "logic" (.str lg) [])))) = H2 at a2 h2
    have sub : ∀ b ∈ [g], b ∈ g :: M := by simp
    have sq := (ht.adv (a2.more sub)).sq (K := K) A.W
    refine ⟨_, rfl, t, rfl, ⟨_, sq⟩, fun D nD => ?_⟩
    refine dc_setT (K := K) (a := t) th nD sq hz ?_ ?_
    · intro i r H' T _ aH hT
      exact ⟨rfl, _, rfl, hT⟩
    intro H3 a3 hS
    have h3 := a3.same _ _ h2
    have Dg : D ≠ g := fun z => by rw [z, h2] at nD; cases nD
    refine ⟨_, rfl, g, G.C, dx, _, rfl, h3, G.cl, G.n3, by show 2 < 1000; decide, ?_⟩
    rw [rfs_put]
    have a4 : Adv [g] H3 (upd H3 g (.ins G.C dx (rfs lg sh D))) := Adv.set (by simp)
    have a04 : Adv [g] H (upd H3 g (.ins G.C dx (rfs lg sh D))) := (a2.trans a3.nil).trans a4
    have shg : sh ≠ g := ne_of hsh hg (by intro z; cases z)
    exact q _ ⟨⟨dx, sh, D, rs, upd_same, a04 _ _ (by simpa using shg) hsh, (hrs.adv (a04.more sub)).less (fun b hb => List.mem_cons_of_mem _ hb), hS.adv a4 (by simpa using Dg)⟩⟩ a04
end

set_option Elab.async false
set_option linter.all false
set_option maxRecDepth 100000
set_option maxHeartbeats 4000000
open PySem PySem.Spec PyProof.Rows L2 LL
open C8 (pss_cut)
section
variable [KW]
variable {P : Program} {w : World} {K : PySem.W.Frag} {mg : Str → Option Value} {base : Heap}
/-! ### asks_main -/
/-- a line that may be asked for -/
structure LnOk (ns : List Nd) (l : Ln) : Prop where
  left : ∀ r ∈ l.left, r < ns.length
  right : ∀ r ∈ l.right, r < ns.length
  main : l.rule ≠ .no → ∃ m : Nat, l.main = m ∧ m < ns.length
  z1 : l.left.length ≤ 100000
  z2 : l.right.length ≤ 100000
structure AskP (C : Addr) (vs : List V) (H : Hp) (Q : VK) : Prop where
  ex : ∃ (M : List Addr) (g : Addr) (v : V) (lg : Str) (ns : List Nd) (th : List Nat) (l : Ln), vs = [.ref g, v] ∧ RuAt C M H g lg ns th ∧ Is M H l.data v ∧ LnOk ns l ∧ logicOk lg = true ∧ ∀ H', Adv [] H H' → Q (.bl (askB lg ns th l)) H'
def spAskM (C : Addr) : Sp := fun vs H Q _ => AskP C vs H Q
theorem inV_ints (m : Int) (l : List Nat) : inV (.int m) (nVl l) = l.any fun x => decide ((x : Int) = m) := by
  unfold inV nVl
  rw [List.any_map]
  rfl
theorem flat_ints (l : List Nat) : (nVl l).all flatV = true := by
  unfold nVl
  rw [List.all_map, List.all_eq_true]
  exact fun x _ => rfl
theorem nd_at {M : List Addr} {H : Hp} {ns : List Nd} {rs : List V} (hrs : IsDs M H (ns.map Nd.data) rs) {r : Nat} (h : r < ns.length) : ∃ nd, rs[r]? = some (.ref nd) ∧ Tp M H nd ((ndA ns r).keys.map kV) := by
  have en : (ns.map Nd.data)[r]? = some (ndA ns r).data := by
    unfold ndA
    rw [List.getElem?_map, List.getElem?_eq_getElem h]; rfl
  obtain ⟨nv, hnv, hn⟩ := hrs.get en
  obtain ⟨nd, wn, rfl, tn, dn⟩ := hn.tupE
  rw [nd_keys dn] at tn
  exact ⟨nd, hnv, tn⟩
theorem ask_left {lg : Str} {ns : List Nd} {th le ri pr : List Nat} {r : Rl} {m : Nat} (h : leftR r = true) (hb : r = .boxL → lg = "s4") : askB lg ns th ⟨le, ri, r, pr, (m : Nat)⟩ = (fitsK r (ndA ns m) && le.any fun x => decide ((x : Int) = (m : Nat))) := by
  cases r <;> first | (cases h; done) | rfl | (obtain rfl := hb rfl; rfl)
theorem ask_right {lg : Str} {ns : List Nd} {th le ri pr : List Nat} {r : Rl} {m : Nat} (h : (leftR r || decide (wdR r = "")) = false) (hb : r = .box → logicB lg = true) : askB lg ns th ⟨le, ri, r, pr, (m : Nat)⟩ = (fitsK r (ndA ns m) && ri.any fun x => decide ((x : Int) = (m : Nat))) := by
  cases r <;> first | (cases h; done) | rfl | skip
  have hb := hb rfl
  unfold logicB at hb
  show (if ((false && _) || (true && !(decide (lg = "k") || decide (lg = "s4") || decide (lg = "gl")))) = true then false else _) = _
  rw [hb]
  rfl
theorem ask_boxL {lg : Str} {ns : List Nd} {th le ri pr : List Nat} {m : Int} (h : ¬ lg = "s4") : askB lg ns th ⟨le, ri, .boxL, pr, m⟩ = false := by
  show (if ((true && !decide (lg = "s4")) || _) = true then false else _) = false
  rw [decide_eq_false h]
  rfl
theorem ask_box {lg : Str} {ns : List Nd} {th le ri pr : List Nat} {m : Int} (h : logicB lg = false) : askB lg ns th ⟨le, ri, .box, pr, m⟩ = false := by
  unfold logicB at h
  show (if ((false && _) || (true && !(decide (lg = "k") || decide (lg = "s4") || decide (lg = "gl")))) = true then false else _) = false
  rw [h]
  rfl
theorem ok_asks_main (A : All K mg w) (G : Rul K mg) : FnOk P w K mg base CX0 1 G.fA G.dA ["self", "line"] (spAskM G.C) := by
  refine G.FA.ok sc_Rules_asks_main (fun vs H Q E h => ?_) (fun cdv Ar outer s H vs Q E hr h => ?_)
  · obtain ⟨M, g, v, lg, ns, th, l, rfl, _⟩ := h.ex
    rfl
  · obtain ⟨M, g, v, lg, ns, th, l, rfl, hg, hv, ok, hlg, q⟩ := h.ex
    obtain ⟨aLw, esL, nL, mLw, kL, vL⟩ := A.C.lefts.ex
    obtain ⟨aRw, esR, nR, mRw, kR, vR⟩ := A.C.rights.ex
    refine ⟨_, (pss_cons (ps_asg (pv 1) (pg_tup rfl (pgs_cons (pg_name (i := 2) sc_Rules_asks_main.nd rfl (Or.inl rfl)) (pgs_cons (pg_name (i := 3) sc_Rules_asks_main.nd rfl (Or.inl rfl)) (pgs_cons (pg_name (i := 4) sc_Rules_asks_main.nd rfl (Or.inl rfl)) (pgs_cons (pg_name (i := 5) sc_Rules_asks_main.nd rfl (Or.inl rfl)) (pgs_cons (pg_name (i := 6) sc_Rules_asks_main.nd rfl (Or.inl rfl)) pgs_nil)))))))
  (pss_cons (ps_if (pt_cmpR op_eq (pv 4) pe_str (nomark _))
    (pss_one (ps_ret (pe_and (pe_cmpR (op_inK K rfl) (pv 6) (pv 2) rfl) (pe_one (pe_cmpR (op_inK K rfl) (pv 6) (pv 3) rfl)))))
    pss_nil)
  (pss_cons (ps_if (pt_cmpR op_eq (pv 4) pe_str (nomark _))
    (pss_one (ps_ret (pe_callB (cr_any rfl) (by rfl) A.T.any (by decide +kernel) (pa_cons (pe_lc (own := [("row", 7)]) (g := (gName 7)) rfl sc_Rules_asks_main.nd (pi_tup (pv 2)) (blkOk_by (own := [("row", 7)]) (N := ["self", "line", "left", "right", "rule", "premises", "main", "row"]) (sc := defScope s_Rules_asks_main) (by decide +kernel)) (fun _ _ _ _ _ => pg_name (i := 7) sc_Rules_asks_main.nd rfl (Or.inl rfl)) (fun _ _ _ _ _ => pts_nil) (fun _ _ _ _ _ => (pe_cmpR op_eq (pe_ix (ix_tupK K rfl) (pe_ix (ix_listK K rfl) (pe_fldK K rfl (pv 0) rfl) (pv 7) (fun _ _ => rfl)) pe_int (fun _ _ => rfl)) pe_str (nomark _)))) pa_nil))))
    pss_nil)
  (pss_cons (ps_if (pt_cmpR op_eq (pv 4) pe_str (nomark _))
    (pss_one (ps_ret (pe_cmp (pc_din (hu_of hr) (pv 6) (pe_fld (pv 0) rfl)))))
    pss_nil)
  (pss_cons (ps_if (pt_cmpR op_eq (pv 4) pe_str (nomark _))
    (pss_one (ps_ret pe_bl))
    pss_nil)
  (pss_cons (ps_if (PW.pt (pw_or (PW.pt (pw_and (pt_cmpR op_eq (pv 4) pe_str (nomark _)) (pw_and1 (pt_cmpR op_ne (pe_fld (pv 0) rfl) pe_str (nomark _))))) (pw_or1 (PW.pt (pw_and (pt_cmpR op_eq (pv 4) pe_str (nomark _)) (pw_and1 (pt_cmpR (op_notInK K rfl) (pe_fld (pv 0) rfl) (pe_tup (pa_cons pe_str (pa_cons pe_str (pa_cons pe_str pa_nil)))) rfl)))))))
    (pss_one (ps_ret pe_bl))
    pss_nil)
  (pss_cons (ps_if (pt_cmpR (op_in_kd kL) (pv 4) (pe_glob (v := .ref aLw) rfl mLw rfl) rfl)
    (pss_one (ps_ret (pe_and (pe_cmpR op_eq (pe_ix ix_tup (pe_ix ix_list (pe_fldK K rfl (pv 0) rfl) (pv 6) (fun _ _ => rfl)) pe_int (fun _ _ => rfl)) (pe_ix ix_kdict (pe_glob (v := .ref aLw) rfl mLw rfl) (pv 4) (fun _ _ => rfl)) (nomark _)) (pe_one (pe_cmpR (op_inK K rfl) (pv 6) (pv 2) rfl)))))
    pss_nil)
  (pss_one (ps_ret (pe_and (pe_cmpR op_eq (pe_ix ix_tup (pe_ix ix_list (pe_fldK K rfl (pv 0) rfl) (pv 6) (fun _ _ => rfl)) pe_int (fun _ _ => rfl)) (pe_ix ix_kdict (pe_glob (v := .ref aRw) rfl mRw rfl) (pv 4) (fun _ _ => rfl)) (nomark _)) (pe_one (pe_cmpR (op_inK K rfl) (pv 6) (pv 3) rfl)))))))))))), ?_⟩
    obtain ⟨dx, sh, td, rs, hgi, hsh, hrs, hth⟩ := hg.ex
    obtain ⟨lt, us, rfl, htp, hs⟩ := hv.tupE
    obtain ⟨va, vb, vc, vp, vm, rfl, ha, hb, hc, hp, hm⟩ := IsDs.five hs
    obtain ⟨ta, ua, rfl, tpa, ia⟩ := ha.tupE
    obtain ⟨tb, ub, rfl, tpb, ib⟩ := hb.tupE
    obtain ⟨tp, up, rfl, tpp, ip⟩ := hp.tupE
    obtain rfl := nD_of ia
    obtain rfl := nD_of ib
    obtain rfl := hc.strE
    obtain rfl := hm.intE
    have sq := htp.sq (K := K) A.W
    have sqa := tpa.sq (K := K) A.W
    have sqb := tpb.sq (K := K) A.W
    refine ⟨_, rfl, ?_⟩
    refine rd_gtup sq rfl ?_
    obtain ⟨le, ri, r, pr, m⟩ := l
    dsimp only at *
    clear hv hs ha hb hc hp hm ia ib ip sq htp
    cases r
    · -- axiom
      have q0 : ∀ H', Adv [] H H' → Q (.bl ((le.any fun x => decide ((x : Int) = m)) && (ri.any fun x => decide ((x : Int) = m)))) H' := q
      walk_at "rd"
      refine ⟨ta, _, rfl, .inr sqa, rfl, flat_ints _, ?_⟩
      rw [inV_ints]
      refine ⟨_, rfl, iteB (fun e => ?_) (fun e => ?_)⟩
      · walk_at "rd"
        refine ⟨tb, _, rfl, .inr sqb, rfl, flat_ints _, ?_⟩
        rw [inV_ints]
        have q' := q0 H (Adv.refl _ _)
        have e' : (le.any fun x => decide ((x : Int) = m)) = true := by simpa using e
        rw [e', Bool.true_and] at q'
        simpa using q'
      · have q' := q0 H (Adv.refl _ _)
        have e' : (le.any fun x => decide ((x : Int) = m)) = false := by simpa using e
        rw [e', Bool.false_and] at q'
        exact q'
    · -- no
      have q0 : ∀ H', Adv [] H H' → Q (.bl (le.any fun x => decide (ndA ns x = .no))) H' := q
      walk_at "rd"
      refine ⟨_, rfl, ta, rfl, ⟨_, sqa⟩, fun D nD => ?_⟩
      refine lc_mapT (K := K) (a := ta) (xs := nVl le) (fun i => V.bl (decide (ndA ns (le.getD i 0) = .no))) nD sqa (by rw [nVl_len]; have := ok.z1; dsimp only at this; omega) ?_ ?_
      · intro i y H' acc R hx aH hD k
        obtain ⟨r, hr', rfl⟩ := nVl_get hx
        have ed : le.getD i 0 = r := by rw [List.getD_eq_getElem?_getD, hr']; rfl
        have hgi' := aH.same _ _ hgi
        have hsh' := aH.same _ _ hsh
        have hrs' := hrs.adv aH.nil
        obtain ⟨nd, hnd, tn⟩ := nd_at hrs' (ok.left r (List.mem_of_getElem? hr'))
        have sqn := tn.sq (K := K) A.W
        refine ⟨rfl, ?_⟩
        walk_at "rd"
        refine ⟨g, G.C, dx, _, _, rfl, hgi', G.cl, G.n2, rfs_2 lg sh td, ?_⟩
        walk_at "rd"
        refine rd_ixT sqn (atI_nat (j := 0) (wdN_at _)) ?_
        walk_at "rd"
        have k' := k H' hD aH
        rw [ed, ← wd_no] at k'
        exact k'
      intro H1 a1 hD
      rw [nVl_len, all_rows le fun r => decide (ndA ns r = .no)] at hD
      refine ⟨D, le.map fun r => decide (ndA ns r = .no), rfl, .inl (.inl hD), ?_⟩
      rw [List.any_map]
      exact q0 H1 a1
    · -- given
      have q0 : ∀ H', Adv [] H H' → Q (.bl (th.any fun x => decide ((x : Int) = m))) H' := q
      walk_at "rd"
      refine ⟨g, G.C, dx, _, _, rfl, hgi, G.cl, G.n3, rfs_3 lg sh td, ?_⟩
      obtain ⟨o, ho, eo⟩ := hth.get m
      walk_at "rd"
      refine ⟨td, o, rfl, ho, ?_⟩
      rw [eo]
      exact q0 H (Adv.refl _ _)
    · -- and left
      obtain ⟨mn, em, hmn⟩ := ok.main (by intro z; cases z)
      have em : m = (mn : Int) := em
      subst em
      obtain ⟨t1, v1⟩ : ∃ t, PySem.W.nsIn K aLw Rl.andL.str = some (some (.str "and" t)) := vL "and left"
      have q0 : ∀ H', Adv [] H H' → Q (.bl (decide (V.str (wdN (ndA ns mn)) = V.str "and") && (le.any fun x => decide ((x : Int) = (mn : Int))))) H' := fun H' a => by
        have h := q H' a
        rw [ask_left (r := .andL) rfl (fun z => nomatch z)] at h
        rw [show decide (V.str (wdN (ndA ns mn)) = V.str "and") = _ from wd_fits .andL _ (by decide)]
        exact h
      obtain ⟨nd, hnd, tn⟩ := nd_at hrs hmn
      have sqn := tn.sq (K := K) A.W
      walk_at "rd"
      refine ⟨_, _, rfl, rfl, v1, _, rfl, iteY rfl ?_⟩
      walk_at "rd"
      refine ⟨g, G.C, dx, _, _, rfl, hgi, G.cl, G.n2, rfs_2 lg sh td, ?_⟩
      walk_at "rd"
      refine rd_ixT sqn (atI_nat (j := 0) (wdN_at _)) ?_
      walk_at "rd"
      refine ⟨aLw, Rl.andL.str, .str "and", rfl, rfl, ⟨esL, nL, _, kL.at_, kL.lit, v1, ⟨t1, rfl⟩⟩, ?_⟩
      walk_at "rd"
      refine iteB (fun e => ?_) (fun e => ?_)
      · walk_at "rd"
        refine ⟨ta, _, rfl, .inr sqa, rfl, flat_ints _, ?_⟩
        rw [inV_ints]
        have q' := q0 H (Adv.refl _ _)
        rw [e, Bool.true_and] at q'
        simpa using q'
      · have q' := q0 H (Adv.refl _ _)
        rw [e, Bool.false_and] at q'
        exact q'
    · -- or left
      obtain ⟨mn, em, hmn⟩ := ok.main (by intro z; cases z)
      have em : m = (mn : Int) := em
      subst em
      obtain ⟨t1, v1⟩ : ∃ t, PySem.W.nsIn K aLw Rl.orL.str = some (some (.str "or" t)) := vL "or left"
      have q0 : ∀ H', Adv [] H H' → Q (.bl (decide (V.str (wdN (ndA ns mn)) = V.str "or") && (le.any fun x => decide ((x : Int) = (mn : Int))))) H' := fun H' a => by
        have h := q H' a
        rw [ask_left (r := .orL) rfl (fun z => nomatch z)] at h
        rw [show decide (V.str (wdN (ndA ns mn)) = V.str "or") = _ from wd_fits .orL _ (by decide)]
        exact h
      obtain ⟨nd, hnd, tn⟩ := nd_at hrs hmn
      have sqn := tn.sq (K := K) A.W
      walk_at "rd"
      refine ⟨_, _, rfl, rfl, v1, _, rfl, iteY rfl ?_⟩
      walk_at "rd"
      refine ⟨g, G.C, dx, _, _, rfl, hgi, G.cl, G.n2, rfs_2 lg sh td, ?_⟩
      walk_at "rd"
      refine rd_ixT sqn (atI_nat (j := 0) (wdN_at _)) ?_
      walk_at "rd"
      refine ⟨aLw, Rl.orL.str, .str "or", rfl, rfl, ⟨esL, nL, _, kL.at_, kL.lit, v1, ⟨t1, rfl⟩⟩, ?_⟩
      walk_at "rd"
      refine iteB (fun e => ?_) (fun e => ?_)
      · walk_at "rd"
        refine ⟨ta, _, rfl, .inr sqa, rfl, flat_ints _, ?_⟩
        rw [inV_ints]
        have q' := q0 H (Adv.refl _ _)
        rw [e, Bool.true_and] at q'
        simpa using q'
      · have q' := q0 H (Adv.refl _ _)
        rw [e, Bool.false_and] at q'
        exact q'
    · -- if left
      obtain ⟨mn, em, hmn⟩ := ok.main (by intro z; cases z)
      have em : m = (mn : Int) := em
      subst em
      obtain ⟨t1, v1⟩ : ∃ t, PySem.W.nsIn K aLw Rl.ifL.str = some (some (.str "if" t)) := vL "if left"
      have q0 : ∀ H', Adv [] H H' → Q (.bl (decide (V.str (wdN (ndA ns mn)) = V.str "if") && (le.any fun x => decide ((x : Int) = (mn : Int))))) H' := fun H' a => by
        have h := q H' a
        rw [ask_left (r := .ifL) rfl (fun z => nomatch z)] at h
        rw [show decide (V.str (wdN (ndA ns mn)) = V.str "if") = _ from wd_fits .ifL _ (by decide)]
        exact h
      obtain ⟨nd, hnd, tn⟩ := nd_at hrs hmn
      have sqn := tn.sq (K := K) A.W
      walk_at "rd"
      refine ⟨_, _, rfl, rfl, v1, _, rfl, iteY rfl ?_⟩
      walk_at "rd"
      refine ⟨g, G.C, dx, _, _, rfl, hgi, G.cl, G.n2, rfs_2 lg sh td, ?_⟩
      walk_at "rd"
      refine rd_ixT sqn (atI_nat (j := 0) (wdN_at _)) ?_
      walk_at "rd"
      refine ⟨aLw, Rl.ifL.str, .str "if", rfl, rfl, ⟨esL, nL, _, kL.at_, kL.lit, v1, ⟨t1, rfl⟩⟩, ?_⟩
      walk_at "rd"
      refine iteB (fun e => ?_) (fun e => ?_)
      · walk_at "rd"
        refine ⟨ta, _, rfl, .inr sqa, rfl, flat_ints _, ?_⟩
        rw [inV_ints]
        have q' := q0 H (Adv.refl _ _)
        rw [e, Bool.true_and] at q'
        simpa using q'
      · have q' := q0 H (Adv.refl _ _)
        rw [e, Bool.false_and] at q'
        exact q'
    · -- box left
      obtain ⟨mn, em, hmn⟩ := ok.main (by intro z; cases z)
      have em : m = (mn : Int) := em
      subst em
      obtain ⟨t1, v1⟩ : ∃ t, PySem.W.nsIn K aLw Rl.boxL.str = some (some (.str "box" t)) := vL "box left"
      walk_at "rd"
      refine ⟨g, G.C, dx, _, _, rfl, hgi, G.cl, G.n1, rfs_1 lg sh td, ?_⟩
      walk_at "rd"
      by_cases elg : lg = "s4"
      case neg =>
        refine iteY (by simpa using elg) ?_
        walk_at "rd"
        have h := q H (Adv.refl _ _)
        rw [ask_boxL elg] at h
        exact h
      refine iteN (by rw [elg]; decide) ?_
      have q0 : ∀ H', Adv [] H H' → Q (.bl (decide (V.str (wdN (ndA ns mn)) = V.str "box") && (le.any fun x => decide ((x : Int) = (mn : Int))))) H' := fun H' a => by
        have h := q H' a
        rw [ask_left (r := .boxL) rfl (fun _ => elg)] at h
        rw [show decide (V.str (wdN (ndA ns mn)) = V.str "box") = _ from wd_fits .boxL _ (by decide)]
        exact h
      obtain ⟨nd, hnd, tn⟩ := nd_at hrs hmn
      have sqn := tn.sq (K := K) A.W
      walk_at "rd"
      refine ⟨_, _, rfl, rfl, v1, _, rfl, iteY rfl ?_⟩
      walk_at "rd"
      refine ⟨g, G.C, dx, _, _, rfl, hgi, G.cl, G.n2, rfs_2 lg sh td, ?_⟩
      walk_at "rd"
      refine rd_ixT sqn (atI_nat (j := 0) (wdN_at _)) ?_
      walk_at "rd"
      refine ⟨aLw, Rl.boxL.str, .str "box", rfl, rfl, ⟨esL, nL, _, kL.at_, kL.lit, v1, ⟨t1, rfl⟩⟩, ?_⟩
      walk_at "rd"
      refine iteB (fun e => ?_) (fun e => ?_)
      · walk_at "rd"
        refine ⟨ta, _, rfl, .inr sqa, rfl, flat_ints _, ?_⟩
        rw [inV_ints]
        have q' := q0 H (Adv.refl _ _)
        rw [e, Bool.true_and] at q'
        simpa using q'
      · have q' := q0 H (Adv.refl _ _)
        rw [e, Bool.false_and] at q'
        exact q'
    · -- and right
      obtain ⟨mn, em, hmn⟩ := ok.main (by intro z; cases z)
      have em : m = (mn : Int) := em
      subst em
      obtain ⟨t1, v1⟩ : ∃ t, PySem.W.nsIn K aRw Rl.andR.str = some (some (.str "and" t)) := vR "and right"
      have q0 : ∀ H', Adv [] H H' → Q (.bl (decide (V.str (wdN (ndA ns mn)) = V.str "and") && (ri.any fun x => decide ((x : Int) = (mn : Int))))) H' := fun H' a => by
        have h := q H' a
        rw [ask_right (r := .andR) rfl (fun z => nomatch z)] at h
        rw [show decide (V.str (wdN (ndA ns mn)) = V.str "and") = _ from wd_fits .andR _ (by decide)]
        exact h
      obtain ⟨nd, hnd, tn⟩ := nd_at hrs hmn
      have sqn := tn.sq (K := K) A.W
      have v0 : PySem.W.nsIn K aLw Rl.andR.str = some none := vL "and right"
      walk_at "rd"
      refine ⟨_, _, rfl, rfl, v0, _, rfl, iteN rfl ?_⟩
      walk_at "rd"
      refine ⟨g, G.C, dx, _, _, rfl, hgi, G.cl, G.n2, rfs_2 lg sh td, ?_⟩
      walk_at "rd"
      refine rd_ixT sqn (atI_nat (j := 0) (wdN_at _)) ?_
      walk_at "rd"
      refine ⟨aRw, Rl.andR.str, .str "and", rfl, rfl, ⟨esR, nR, _, kR.at_, kR.lit, v1, ⟨t1, rfl⟩⟩, ?_⟩
      walk_at "rd"
      refine iteB (fun e => ?_) (fun e => ?_)
      · walk_at "rd"
        refine ⟨tb, _, rfl, .inr sqb, rfl, flat_ints _, ?_⟩
        rw [inV_ints]
        have q' := q0 H (Adv.refl _ _)
        rw [e, Bool.true_and] at q'
        simpa using q'
      · have q' := q0 H (Adv.refl _ _)
        rw [e, Bool.false_and] at q'
        exact q'
    · -- or right
      obtain ⟨mn, em, hmn⟩ := ok.main (by intro z; cases z)
      have em : m = (mn : Int) := em
      subst em
      obtain ⟨t1, v1⟩ : ∃ t, PySem.W.nsIn K aRw Rl.orR.str = some (some (.str "or" t)) := vR "or right"
      have q0 : ∀ H', Adv [] H H' → Q (.bl (decide (V.str (wdN (ndA ns mn)) = V.str "or") && (ri.any fun x => decide ((x : Int) = (mn : Int))))) H' := fun H' a => by
        have h := q H' a
        rw [ask_right (r := .orR) rfl (fun z => nomatch z)] at h
        rw [show decide (V.str (wdN (ndA ns mn)) = V.str "or") = _ from wd_fits .orR _ (by decide)]
        exact h
      obtain ⟨nd, hnd, tn⟩ := nd_at hrs hmn
      have sqn := tn.sq (K := K) A.W
      have v0 : PySem.W.nsIn K aLw Rl.orR.str = some none := vL "or right"
      walk_at "rd"
      refine ⟨_, _, rfl, rfl, v0, _, rfl, iteN rfl ?_⟩
      walk_at "rd"
      refine ⟨g, G.C, dx, _, _, rfl, hgi, G.cl, G.n2, rfs_2 lg sh td, ?_⟩
      walk_at "rd"
      refine rd_ixT sqn (atI_nat (j := 0) (wdN_at _)) ?_
      walk_at "rd"
      refine ⟨aRw, Rl.orR.str, .str "or", rfl, rfl, ⟨esR, nR, _, kR.at_, kR.lit, v1, ⟨t1, rfl⟩⟩, ?_⟩
      walk_at "rd"
      refine iteB (fun e => ?_) (fun e => ?_)
      · walk_at "rd"
        refine ⟨tb, _, rfl, .inr sqb, rfl, flat_ints _, ?_⟩
        rw [inV_ints]
        have q' := q0 H (Adv.refl _ _)
        rw [e, Bool.true_and] at q'
        simpa using q'
      · have q' := q0 H (Adv.refl _ _)
        rw [e, Bool.false_and] at q'
        exact q'
    · -- if right
      obtain ⟨mn, em, hmn⟩ := ok.main (by intro z; cases z)
      have em : m = (mn : Int) := em
      subst em
      obtain ⟨t1, v1⟩ : ∃ t, PySem.W.nsIn K aRw Rl.ifR.str = some (some (.str "if" t)) := vR "if right"
      have q0 : ∀ H', Adv [] H H' → Q (.bl (decide (V.str (wdN (ndA ns mn)) = V.str "if") && (ri.any fun x => decide ((x : Int) = (mn : Int))))) H' := fun H' a => by
        have h := q H' a
        rw [ask_right (r := .ifR) rfl (fun z => nomatch z)] at h
        rw [show decide (V.str (wdN (ndA ns mn)) = V.str "if") = _ from wd_fits .ifR _ (by decide)]
        exact h
      obtain ⟨nd, hnd, tn⟩ := nd_at hrs hmn
      have sqn := tn.sq (K := K) A.W
      have v0 : PySem.W.nsIn K aLw Rl.ifR.str = some none := vL "if right"
      walk_at "rd"
      refine ⟨_, _, rfl, rfl, v0, _, rfl, iteN rfl ?_⟩
      walk_at "rd"
      refine ⟨g, G.C, dx, _, _, rfl, hgi, G.cl, G.n2, rfs_2 lg sh td, ?_⟩
      walk_at "rd"
      refine rd_ixT sqn (atI_nat (j := 0) (wdN_at _)) ?_
      walk_at "rd"
      refine ⟨aRw, Rl.ifR.str, .str "if", rfl, rfl, ⟨esR, nR, _, kR.at_, kR.lit, v1, ⟨t1, rfl⟩⟩, ?_⟩
      walk_at "rd"
      refine iteB (fun e => ?_) (fun e => ?_)
      · walk_at "rd"
        refine ⟨tb, _, rfl, .inr sqb, rfl, flat_ints _, ?_⟩
        rw [inV_ints]
        have q' := q0 H (Adv.refl _ _)
        rw [e, Bool.true_and] at q'
        simpa using q'
      · have q' := q0 H (Adv.refl _ _)
        rw [e, Bool.false_and] at q'
        exact q'
    · -- box
      obtain ⟨mn, em, hmn⟩ := ok.main (by intro z; cases z)
      have em : m = (mn : Int) := em
      subst em
      obtain ⟨t1, v1⟩ : ∃ t, PySem.W.nsIn K aRw Rl.box.str = some (some (.str "box" t)) := vR "box"
      walk_at "rd"
      refine ⟨g, G.C, dx, _, _, rfl, hgi, G.cl, G.n1, rfs_1 lg sh td, ?_⟩
      walk_at "rd"
      refine ⟨by show 3 ≤ sizeLine; decide, fun p np => ?_⟩
      have ap : Adv [] H (upd H p (.tup [.str "k", .str "s4", .str "gl"])) := Adv.new np
      have sqp := SqT.of (K := K) (show (upd H p (.tup [.str "k", .str "s4", .str "gl"])) p = some (.tup [.str "k", .str "s4", .str "gl"]) from upd_same)
      generalize (upd H p (.tup [.str "k", .str "s4", .str "gl"])) = H1 at ap sqp
      replace hgi := ap.same _ _ hgi
      replace hsh := ap.same _ _ hsh
      replace hrs := hrs.adv ap.nil
      replace sqb := SqT.adv ap sqb
      clear np
      refine ⟨p, _, rfl, .inr sqp, rfl, by decide, ?_⟩
      have ein : inV (.str lg) [.str "k", .str "s4", .str "gl"] = logicB lg := (inV_strs lg ["k", "s4", "gl"]).trans (by simp [logicB, Bool.or_assoc])
      rw [ein]
      walk_at "rd"
      cases elg : logicB lg with
      | false =>
        refine iteY rfl ?_
        walk_at "rd"
        have h := q H1 ap
        rw [ask_box elg] at h
        exact h
      | true =>
      refine iteN (by decide) ?_
      have q0 : ∀ H', Adv [] H H' → Q (.bl (decide (V.str (wdN (ndA ns mn)) = V.str "box") && (ri.any fun x => decide ((x : Int) = (mn : Int))))) H' := fun H' a => by
        have h := q H' a
        rw [ask_right (r := .box) rfl (fun _ => elg)] at h
        rw [show decide (V.str (wdN (ndA ns mn)) = V.str "box") = _ from wd_fits .box _ (by decide)]
        exact h
      obtain ⟨nd, hnd, tn⟩ := nd_at hrs hmn
      have sqn := tn.sq (K := K) A.W
      have v0 : PySem.W.nsIn K aLw Rl.box.str = some none := vL "box"
      walk_at "rd"
      refine ⟨_, _, rfl, rfl, v0, _, rfl, iteN rfl ?_⟩
      walk_at "rd"
      refine ⟨g, G.C, dx, _, _, rfl, hgi, G.cl, G.n2, rfs_2 lg sh td, ?_⟩
      walk_at "rd"
      refine rd_ixT sqn (atI_nat (j := 0) (wdN_at _)) ?_
      walk_at "rd"
      refine ⟨aRw, Rl.box.str, .str "box", rfl, rfl, ⟨esR, nR, _, kR.at_, kR.lit, v1, ⟨t1, rfl⟩⟩, ?_⟩
      walk_at "rd"
      refine iteB (fun e => ?_) (fun e => ?_)
      · walk_at "rd"
        refine ⟨tb, _, rfl, .inr sqb, rfl, flat_ints _, ?_⟩
        rw [inV_ints]
        have q' := q0 H1 ap
        rw [e, Bool.true_and] at q'
        simpa using q'
      · have q' := q0 H1 ap
        rw [e, Bool.false_and] at q'
        exact q'
    · -- cut
      walk_at "rd"
      exact q H (Adv.refl _ _)
end

set_option Elab.async false
set_option linter.all false
set_option maxRecDepth 100000
set_option maxHeartbeats 4000000
open PySem PySem.Spec PyProof.Rows L2 LL
open C8 (pss_cut)
section
variable [KW]
variable {P : Program} {w : World} {K : PySem.W.Frag} {mg : Str → Option Value} {base : Heap}
/-! ### box_room -/
def bxF (lg : Str) (ns : List Nd) (r : Nat) : List Nat := match ndA ns r with
  | .box j => (if lg = "s4" then [] else [j]) ++ (if lg = "k" then [] else [r])
  | _ => []
theorem bxF_le (lg : Str) (ns : List Nd) (l : List Nat) : (l.flatMap (bxF lg ns)).length ≤ 2 * l.length := by
  induction l with
  | nil => simp
  | cons r l ih =>
    rw [List.flatMap_cons, List.length_append, List.length_cons]
    have : (bxF lg ns r).length ≤ 2 := by
      unfold bxF
      cases ndA ns r <;> simp
      split <;> split <;> simp
    omega
theorem bxF_snoc {lg : Str} {ns : List Nd} {l : List Nat} {i r : Nat} (h : l[i]? = some r) : (l.take (i + 1)).flatMap (bxF lg ns) = (l.take i).flatMap (bxF lg ns) ++ bxF lg ns r := by
  rw [List.take_add_one, h, List.flatMap_append]
  simp
structure BrmP (C : Addr) (vs : List V) (H : Hp) (Q : VK) : Prop where
  ex : ∃ (M : List Addr) (g ta : Addr) (lg : Str) (ns : List Nd) (th le : List Nat) (m : Nat), vs = [.ref g, .ref ta, .int (m : Nat)] ∧ RuAt C M H g lg ns th ∧ Tp M H ta (nVl le) ∧ (∀ r ∈ le, r < ns.length) ∧ le.length ≤ 100000 ∧
    ∀ D H', H D = none → SetD H' D (boxRoom lg ns le m) → Adv [] H H' → Q (.ref D) H'
def spBrm (C : Addr) : Sp := fun vs H Q _ => BrmP C vs H Q
theorem ok_box_room (A : All K mg w) (G : Rul K mg) : FnOk P w K mg base CX0 1 G.fB G.dB ["self", "left", "main"] (spBrm G.C) := by
  refine G.FB.ok sc_Rules_box_room (fun vs H Q E h => ?_) (fun cdv Ar outer s H vs Q E hr h => ?_)
  · obtain ⟨M, g, ta, lg, ns, th, le, m, rfl, _⟩ := h.ex
    rfl
  · obtain ⟨M, g, ta, lg, ns, th, le, m, rfl, hg, tpa, hle, hz, q⟩ := h.ex
    refine ⟨_, (pss_cons (ps_set (i := 3) sc_Rules_box_room.nd rfl (Or.inl rfl) pe_dnewK)
  (pss_cons (ps_for PassesOwn.never rfl (pi_tup (pv 1)) (pg_name (i := 4) sc_Rules_box_room.nd rfl (Or.inl rfl))
    (pss_one (ps_if (pt_cmpR op_eq (pe_ix ix_tup (pe_ix ix_list (pe_fldK K rfl (pv 0) rfl) (pv 4) (fun _ _ => rfl)) pe_int (fun _ _ => rfl)) pe_str (nomark _))
    (pss_cut (ps_if (pt_cmpR op_ne (pe_fld (pv 0) rfl) pe_str (nomark _))
    (pss_one (ps_dput (hu_of hr) (pv 3) (pe_ix ix_tup (pe_ix ix_list (pe_fldK K rfl (pv 0) rfl) (pv 4) (fun _ _ => rfl)) pe_int (fun _ _ => rfl)) pe_bl rfl))
    pss_nil)
  (pss_one (ps_if (pt_cmpR op_ne (pe_fld (pv 0) rfl) pe_str (nomark _))
    (pss_one (ps_dput (hu_of hr) (pv 3) (pv 4) pe_bl rfl))
    pss_nil)))
    pss_nil)))
  (pss_cut (ps_if (pt_cmpR op_eq (pe_fld (pv 0) rfl) pe_str (nomark _))
    (pss_one (ps_dput (hu_of hr) (pv 3) (pv 2) pe_bl rfl))
    pss_nil)
  (pss_one (ps_ret (pv 3)))))), ?_⟩
    obtain ⟨dx, sh, td, rs, hgi, hsh, hrs, hth⟩ := hg.ex
    walk_at "rd"
    intro D nD
    have a1 : Adv [] H (upd H D (.dK [])) := Adv.new nD
    have hD : SetD (upd H D (.dK [])) D [] := SetD.nil upd_same
    generalize (upd H D (.dK [])) = H1 at a1 hD
    have sqa := SqT.adv a1 (tpa.sq (K := K) A.W)
    walk_at "rd"
    unfold iTup
    walk_at "rd"
    refine ⟨ta, rfl, ⟨_, sqa⟩, ?_⟩
    refine for_tup (a := ta) (xs := nVl le) (fun i σ' H' => ∃ y4, σ' = [some (.ref g), some (.ref ta), some (.int (m : Nat)), some (.ref D), y4] ∧ SetD H' D ((le.take i).flatMap (bxF lg ns)) ∧ Adv [] H H')
      ⟨_, rfl, by simpa using hD, a1⟩ ?_ ?_ ?_
    · rintro i σ' H' hi ⟨y4, rfl, _, a⟩
      exact SqT.adv a (tpa.sq (K := K) A.W)
    · rintro i x σ' H' hx ⟨y4, rfl, hS, a⟩
      obtain ⟨r, hr', rfl⟩ := nVl_get hx
      have hlt : i < le.length := (List.getElem?_eq_some_iff.mp hr').1
      have hgi' := a.same _ _ hgi
      have hsh' := a.same _ _ hsh
      obtain ⟨nd, hnd, tn⟩ := nd_at (hrs.adv a.nil) (hle r (List.mem_of_getElem? hr'))
      have sqn := tn.sq (K := K) A.W
      have zS : ((le.take i).flatMap (bxF lg ns)).length + 2 < sizeLine := by
        have := bxF_le lg ns (le.take i)
        rw [List.length_take] at this
        rw [sizeLine_eq]; omega
      walk_at "rd"
      refine ⟨g, G.C, dx, _, _, rfl, hgi', G.cl, G.n2, rfs_2 lg sh td, ?_⟩
      walk_at "rd"
      refine rd_ixT sqn (atI_nat (j := 0) (wdN_at _)) ?_
      walk_at "rd"
      refine iteB (fun e => ?_) (fun e => ?_)
      · obtain ⟨j, ej⟩ : ∃ j, ndA ns r = .box j := by
          cases k : ndA ns r with
          | box j => exact ⟨j, rfl⟩
          | bin o j k' => rw [k] at e; cases o <;> cases e
          | _ => rw [k] at e; cases e
        rw [ej] at sqn
        refine ⟨fun σ' H2 => σ' = [some (.ref g), some (.ref ta), some (.int (m : Nat)), some (.ref D), some (.int (r : Nat))] ∧ SetD H2 D ((le.take i).flatMap (bxF lg ns) ++ if lg = "s4" then [] else [j]) ∧ Adv [] H H2, ?_, ?_⟩
        · walk_at "rd"
          refine ⟨g, G.C, dx, _, _, rfl, hgi', G.cl, G.n1, rfs_1 lg sh td, ?_⟩
          walk_at "rd"
          refine iteB (fun e1 => ?_) (fun e1 => ?_)
          · have el : ¬ lg = "s4" := by simpa using e1
            unfold sDPut
            walk_at "rd"
            refine ⟨g, G.C, dx, _, _, rfl, hgi', G.cl, G.n2, rfs_2 lg sh td, ?_⟩
            walk_at "rd"
            obtain ⟨kvs, k1, k2, k3⟩ := hS.put (v := .bl true) (r := j) (by omega)
            refine ⟨D, _, rfl, DPut.k (k := (Sum.inl ((j : Nat) : Int) : Key)) k1 k2, ?_⟩
            exact ⟨rfl, by rw [if_neg el]; exact k3, a.mut nD⟩
          · have el : lg = "s4" := by simpa using e1
            walk_at "rd"
            exact ⟨rfl, by rw [if_pos el, List.append_nil]; exact hS, a⟩
        · rintro σ2 H2 ⟨rfl, hS2, a2⟩
          have hgi2 := a2.same _ _ hgi
          have ex : bxF lg ns r = (if lg = "s4" then [] else [j]) ++ (if lg = "k" then [] else [r]) := by unfold bxF; rw [ej]
          have z2 : ((le.take i).flatMap (bxF lg ns) ++ if lg = "s4" then [] else [j]).length < sizeLine := by
            rw [List.length_append]
            have : (if lg = "s4" then ([] : List Nat) else [j]).length ≤ 1 := by split <;> simp
            omega
          walk_at "rd"
          refine ⟨g, G.C, dx, _, _, rfl, hgi2, G.cl, G.n1, rfs_1 lg sh td, ?_⟩
          walk_at "rd"
          refine iteB (fun e1 => ?_) (fun e1 => ?_)
          · have el : ¬ lg = "k" := by simpa using e1
            unfold sDPut
            walk_at "rd"
            obtain ⟨kvs, k1, k2, k3⟩ := hS2.put (v := .bl true) (r := r) z2
            refine ⟨D, _, rfl, DPut.k (k := (Sum.inl ((r : Nat) : Int) : Key)) k1 k2, ?_⟩
            refine ⟨_, rfl, ?_, a2.mut nD⟩
            rw [bxF_snoc hr', ex, if_neg el, ← List.append_assoc]
            exact k3
          · have el : lg = "k" := by simpa using e1
            walk_at "rd"
            refine ⟨_, rfl, ?_, a2⟩
            rw [bxF_snoc hr', ex, if_pos el, List.append_nil]
            exact hS2
      · have ex : bxF lg ns r = [] := by
          unfold bxF
          cases k : ndA ns r with
          | box j => rw [k] at e; exact absurd e (by show ¬ decide (V.str "box" = V.str "box") = false; decide)
          | _ => rfl
        walk_at "rd"
        refine ⟨_, rfl, ?_, a⟩
        rw [bxF_snoc hr', ex, List.append_nil]
        exact hS
    · rintro σ' H' ⟨y4, rfl, hS, a⟩
      have hgi' := a.same _ _ hgi
      rw [nVl_len, List.take_length] at hS
      have zS : (le.flatMap (bxF lg ns)).length < sizeLine := by
        have := bxF_le lg ns le
        rw [sizeLine_eq]; omega
      have eb : boxRoom lg ns le m = le.flatMap (bxF lg ns) ++ (if lg = "gl" then [m] else []) := rfl
      rw [eb] at q
      refine ⟨fun σ' H2 => σ' = [some (.ref g), some (.ref ta), some (.int (m : Nat)), some (.ref D), y4] ∧ SetD H2 D (le.flatMap (bxF lg ns) ++ if lg = "gl" then [m] else []) ∧ Adv [] H H2, ?_, ?_⟩
      · walk_at "rd"
        refine ⟨g, G.C, dx, _, _, rfl, hgi', G.cl, G.n1, rfs_1 lg sh td, ?_⟩
        walk_at "rd"
        refine iteB (fun e1 => ?_) (fun e1 => ?_)
        · have el : lg = "gl" := by simpa using e1
          unfold sDPut
          walk_at "rd"
          obtain ⟨kvs, k1, k2, k3⟩ := hS.put (v := .bl true) (r := m) zS
          refine ⟨D, _, rfl, DPut.k (k := (Sum.inl ((m : Nat) : Int) : Key)) k1 k2, ?_⟩
          exact ⟨rfl, by rw [if_pos el]; exact k3, a.mut nD⟩
        · have el : ¬ lg = "gl" := by simpa using e1
          walk_at "rd"
          exact ⟨by rw [if_neg el, List.append_nil]; exact hS, a⟩
      · rintro σ2 H2 ⟨rfl, hS2, a2⟩
        walk_at "rd"
        exact q D H2 nD hS2 a2
end

set_option Elab.async false
set_option linter.all false
set_option maxRecDepth 100000
set_option maxHeartbeats 4000000
open PySem PySem.Spec PyProof.Rows L2 LL
open C8 (pss_cut)
section
variable [KW]
variable {P : Program} {w : World} {K : PySem.W.Frag} {mg : Str → Option Value} {base : Heap}
/-! ### rooms -/
def RmAt (H : Hp) (p : List Nat × List Nat) (v : V) : Prop := ∃ t d1 d2, v = .ref t ∧ H t = some (.tup [.ref d1, .ref d2]) ∧ SetD H d1 p.1 ∧ SetD H d2 p.2
theorem RmAt.adv {H H' : Hp} {p : List Nat × List Nat} {v : V} (x : RmAt H p v) (a : Adv [] H H') : RmAt H' p v := by
  obtain ⟨t, d1, d2, rfl, h1, h2, h3⟩ := x
  exact ⟨t, d1, d2, rfl, a.same _ _ h1, h2.same a, h3.same a⟩
theorem RmAt.set {H : Hp} {p : List Nat × List Nat} {v : V} {F : Addr} {xs ys : List V} (x : RmAt H p v) (hF : H F = some (.lst xs)) : RmAt (upd H F (.lst ys)) p v := by
  obtain ⟨t, d1, d2, rfl, h1, h2, h3⟩ := x
  have a : Adv [F] H (upd H F (.lst ys)) := Adv.set (by simp)
  have n1 : t ≠ F := ne_of h1 hF (by intro z; cases z)
  have nd : ∀ {d : Addr} {r : List Nat}, SetD H d r → d ≠ F := fun {d r} ⟨kvs, hk, _⟩ => ne_of hk hF (by intro z; cases z)
  exact ⟨t, d1, d2, rfl, a _ _ (by simpa using n1) h1, h2.adv a (by simpa using nd h2), h3.adv a (by simpa using nd h3)⟩
structure RmsAt (H : Hp) (ps : List (List Nat × List Nat)) (vs : List V) : Prop where
  len : vs.length = ps.length
  at_ : ∀ (i : Nat) p, ps[i]? = some p → ∃ v, vs[i]? = some v ∧ RmAt H p v
theorem RmsAt.nil {H : Hp} : RmsAt H [] [] := ⟨rfl, fun i p h => by simp at h⟩
theorem RmsAt.adv {H H' : Hp} {ps : List (List Nat × List Nat)} {vs : List V} (x : RmsAt H ps vs) (a : Adv [] H H') : RmsAt H' ps vs := ⟨x.len, fun i p h => let ⟨v, h1, h2⟩ := x.at_ i p h; ⟨v, h1, h2.adv a⟩⟩
theorem RmsAt.set {H : Hp} {ps : List (List Nat × List Nat)} {vs : List V} {F : Addr} {xs ys : List V} (x : RmsAt H ps vs) (hF : H F = some (.lst xs)) : RmsAt (upd H F (.lst ys)) ps vs := ⟨x.len, fun i p h => let ⟨v, h1, h2⟩ := x.at_ i p h; ⟨v, h1, h2.set hF⟩⟩
theorem RmsAt.snoc {H : Hp} {ps : List (List Nat × List Nat)} {vs : List V} {p : List Nat × List Nat} {v : V} (x : RmsAt H ps vs) (h : RmAt H p v) : RmsAt H (ps ++ [p]) (vs ++ [v]) := by
  refine ⟨by simp [x.len], fun i q hq => ?_⟩
  by_cases hi : i < ps.length
  · rw [List.getElem?_append_left hi] at hq
    obtain ⟨u, h1, h2⟩ := x.at_ i q hq
    exact ⟨u, by rw [List.getElem?_append_left (by rw [x.len]; exact hi)]; exact h1, h2⟩
  · rw [List.getElem?_append_right (by omega)] at hq
    have : i = ps.length := by
      have := (List.getElem?_eq_some_iff.mp hq).1
      simp at this; omega
    subst this
    simp at hq
    subst hq
    exact ⟨v, by rw [List.getElem?_append_right (by rw [x.len]; exact Nat.le_refl _), x.len]; simp, h⟩
structure RmP (C : Addr) (vs : List V) (H : Hp) (Q : VK) : Prop where
  ex : ∃ (M : List Addr) (g : Addr) (v : V) (lg : Str) (ns : List Nd) (th : List Nat) (l : Ln), vs = [.ref g, v] ∧ RuAt C M H g lg ns th ∧ Is M H l.data v ∧ LnOk ns l ∧ (∀ b ∈ M, H b ≠ none) ∧ askB lg ns th l = true ∧
    ∀ L ws H', H L = none → H' L = some (.lst ws) → RmsAt H' (roomF lg ns l) ws → Adv [] H H' → Q (.ref L) H'
def spRm (C : Addr) : Sp := fun vs H Q _ => RmP C vs H Q
theorem ask_fits {lg : Str} {ns : List Nd} {th : List Nat} {l : Ln} (h : askB lg ns th l = true) (n : needsNd l.rule = true) : fitsK l.rule (ndA ns l.main.toNat) = true := by
  unfold askB at h
  obtain ⟨le, ri, r, pr, m⟩ := l
  dsimp only at *
  cases r <;> first | (cases n; done) | skip
  all_goals
    dsimp only at h
    split at h
    · cases h
    · exact (Bool.and_eq_true_iff.mp h).1
theorem add_le (r : Rl) (n : Nd) (m : Nat) : ∀ p ∈ addF r n m, p.1.length ≤ 2 ∧ p.2.length ≤ 2 := by
  have hp : n.parts.length ≤ 2 := by cases n <;> simp [Nd.parts]
  intro p h
  cases r <;> simp [addF] at h
  all_goals first
    | (subst h; simp; omega)
    | (rcases h with rfl | rfl <;> simp <;> omega)
    | (obtain rfl := h; simp)
theorem added_of {M : List Addr} {H : Hp} {sh F : Addr} {rs : List V} {ns : List Nd} {l : Ln} {Q : VK} {E : XK} (al : ∀ b ∈ F :: M, H b ≠ none) (hsh : H sh = some (.lst rs)) (hrs : IsDs (F :: M) H (ns.map Nd.data) rs) (ok : LnOk ns l) (nb : l.rule ≠ .box) (kf : needsNd l.rule = true → fitsK l.rule (ndA ns l.main.toNat) = true) (hF : H F ≠ none)
    (k : ∀ L1 ws H4, H4 L1 = some (.lst ws) → L1 ≠ F → IsDs (F :: M) H4 ((addF l.rule (ndA ns l.main.toNat) l.main.toNat).map sidesD) ws → Adv [] H H4 → Q (.ref L1) H4) : spAdded [.ref sh, .str l.rule.str, .int l.main] H Q E := by
  by_cases e : l.rule = .no
  · rw [e]
    refine .inr ⟨sh, l.main, rfl, fun p np => k p [] _ upd_same (fun z => hF (by rw [← z]; exact np)) ?_ (Adv.new np)⟩
    rw [e]
    exact IsDs.nil
  · obtain ⟨m, em, hm⟩ := ok.main e
    rw [em] at kf k ⊢
    rw [Int.toNat_natCast] at kf k
    refine .inl ⟨⟨F :: M, sh, rs, ns, l.rule, m, rfl, al, hsh, hrs, hm, nb, kf, fun y H4 hy a => ?_⟩⟩
    obtain ⟨L1, ws, rfl, n1, h1, h2⟩ := hy.lstE
    exact k L1 ws H4 h1 (fun z => n1 (by rw [z]; exact List.mem_cons_self)) h2 a
theorem ok_rooms (A : All K mg w) (G : Rul K mg) : FnOk P w K mg base CX0 3 G.fR G.dR ["self", "line"] (spRm G.C) := by
  refine G.FR.ok sc_Rules_rooms (fun vs H Q E h => ?_) (fun cdv Ar outer s H vs Q E hr h => ?_)
  · obtain ⟨M, g, v, lg, ns, th, l, rfl, _⟩ := h.ex
    rfl
  · obtain ⟨M, g, v, lg, ns, th, l, rfl, hg, hv, ok, al, hk, q⟩ := h.ex
    refine ⟨_, (pss_cons (ps_asg (pv 1) (pg_tup rfl (pgs_cons (pg_name (i := 2) sc_Rules_rooms.nd rfl (Or.inl rfl)) (pgs_cons (pg_name (i := 3) sc_Rules_rooms.nd rfl (Or.inl rfl)) (pgs_cons (pg_name (i := 4) sc_Rules_rooms.nd rfl (Or.inl rfl)) (pgs_cons (pg_name (i := 5) sc_Rules_rooms.nd rfl (Or.inl rfl)) (pgs_cons (pg_name (i := 6) sc_Rules_rooms.nd rfl (Or.inl rfl)) pgs_nil)))))))
  (pss_cons (ps_if (pt_cmpR op_eq (pv 4) pe_str (nomark _))
    (pss_one (ps_ret (pe_lst (pa_cons (pe_tup (pa_cons (pe_meth (pv 0) G.cl G.mB (ok_box_room A G) (hr.mono (by omega)) G.bB .nil pass0 (pa_cons (pv 2) (pa_cons (pv 6) pa_nil))) (pa_cons (pe_disp (pps_cons (pe_ix ix_tup (pe_ix ix_list (pe_fldK K rfl (pv 0) rfl) (pv 6) (fun _ _ => rfl)) pe_int (fun _ _ => rfl)) pe_bl pps_nil) (by rfl) (by rfl) (fun z => by cases z) (by decide)) pa_nil))) pa_nil))))
    pss_nil)
  (pss_cut (ps_if (pt_not (pt_val (pe_call (ok_keeps_right A) (hr.mono (by omega)) rfl A.keeps_right.m A.keeps_right.F.kp A.keeps_right.b .nil pass0 (pa_cons (pe_fld (pv 0) rfl) (pa_cons (pv 4) pa_nil)))))
    (pss_one (ps_set (i := 3) sc_Rules_rooms.nd rfl (Or.inl rfl) (pe_tup pa_nil)))
    pss_nil)
  (pss_cons (ps_set (i := 7) sc_Rules_rooms.nd rfl (Or.inl rfl) (pe_lst pa_nil))
  (pss_cons (ps_for PassesOwn.never rfl (pi_list (pe_call (ok_added A) (hr.mono (by omega)) rfl A.added.m A.added.F.kp A.added.b .nil pass0 (pa_cons (pe_fldK K rfl (pv 0) rfl) (pa_cons (pv 4) (pa_cons (pv 6) pa_nil))))) (pg_tup rfl (pgs_cons (pg_name (i := 8) sc_Rules_rooms.nd rfl (Or.inl rfl)) (pgs_cons (pg_name (i := 9) sc_Rules_rooms.nd rfl (Or.inl rfl)) pgs_nil)))
    (pss_one (ps_expr (pe_bm PySem.F.plainAttrs_list PySem.F.slot_list_append PySem.F.type_list_append mt_append (pv 7) (pa_cons (pe_tup (pa_cons (pe_dc (own := [("row", 10)]) (g := gName 10) rfl sc_Rules_rooms.nd (pi_tup (pe_op op_catA (pv 2) (pv 8))) (blkOk_by (own := [("row", 10)]) (N := ["self", "line", "left", "right", "rule", "premises", "main", "found", "more_left", "more_right", "row"]) (sc := defScope s_Rules_rooms) (by decide +kernel)) (fun _ _ _ _ _ => pg_name (i := 10) sc_Rules_rooms.nd rfl (Or.inl rfl)) (fun _ _ _ _ _ => pts_nil) (fun _ _ _ _ _ => (pv 10)) (fun _ _ _ _ _ => pe_bl)) (pa_cons (pe_dc (own := [("row", 10)]) (g := gName 10) rfl sc_Rules_rooms.nd (pi_tup (pe_op op_catA (pv 3) (pv 9))) (blkOk_by (own := [("row", 10)]) (N := ["self", "line", "left", "right", "rule", "premises", "main", "found", "more_left", "more_right", "row"]) (sc := defScope s_Rules_rooms) (by decide +kernel)) (fun _ _ _ _ _ => pg_name (i := 10) sc_Rules_rooms.nd rfl (Or.inl rfl)) (fun _ _ _ _ _ => pts_nil) (fun _ _ _ _ _ => (pv 10)) (fun _ _ _ _ _ => pe_bl)) pa_nil))) pa_nil)))))
  (pss_one (ps_ret (pv 7)))))))), ?_⟩
    obtain ⟨dx, sh, td, rs, hgi, hsh, hrs, hth⟩ := hg.ex
    obtain ⟨lt, us, rfl, htp, hs⟩ := hv.tupE
    obtain ⟨va, vb, vc, vp, vm, rfl, ha, hb, hc, hp, hm⟩ := IsDs.five hs
    obtain ⟨ta, ua, rfl, tpa, ia⟩ := ha.tupE
    obtain ⟨tb, ub, rfl, tpb, ib⟩ := hb.tupE
    obtain ⟨tp, up, rfl, tpp, ip⟩ := hp.tupE
    obtain rfl := nD_of ia
    obtain rfl := nD_of ib
    obtain rfl := hc.strE
    obtain rfl := hm.intE
    have sq := htp.sq (K := K) A.W
    refine ⟨_, rfl, ?_⟩
    refine rd_gtup sq rfl ?_
    clear hv hs ha hb hc hp hm ia ib ip sq htp
    have kf := ask_fits hk
    walk_at "rd"
    by_cases eb : l.rule = .box
    · obtain ⟨le, ri, r, pr, m⟩ := l
      dsimp only at *
      subst eb
      obtain ⟨mn, em, hmn⟩ := ok.main (by intro z; cases z)
      have em : m = (mn : Int) := em
      subst em
      have kf' := kf rfl
      obtain ⟨j, ej⟩ : ∃ j, ndA ns mn = .box j := by
        have kf'' : fitsK .box (ndA ns mn) = true := kf'
        cases k : ndA ns mn with
        | box j => exact ⟨j, rfl⟩
        | bin o j k' => rw [k] at kf''; cases kf''
        | _ => rw [k] at kf''; cases kf''
      refine iteY rfl ?_
      walk_at "rd"
      refine ⟨g, dx, _, rfl, hgi, rfs_no lg sh td (by decide +kernel) (by decide +kernel) (by decide +kernel), ?_⟩
      walk_at "rd"
      refine ⟨⟨M, g, ta, lg, ns, th, le, mn, rfl, hg, tpa, ok.left, ok.z1, fun D H1 nD hD a1 => ?_⟩⟩
      walk_at "rd"
      intro E nE
      have a2 : Adv [] H1 (upd H1 E (.dK [])) := Adv.new nE
      have hE : (upd H1 E (.dK [])) E = some (.dK []) := upd_same
      have nE0 : H E = none := a1.free (by simp) nE
      have hD1 := hD
      replace hD := hD.same a2
      have a02 := a1.trans a2
      generalize (upd H1 E (.dK [])) = H2 at a2 hE hD a02
      have hgi2 := a02.same _ _ hgi
      have hsh2 := a02.same _ _ hsh
      obtain ⟨nd, hnd, tn⟩ := nd_at (hrs.adv a02.nil) hmn
      rw [ej] at tn
      have sqn := tn.sq (K := K) A.W
      unfold tPairs
      walk_at "rd"
      refine ⟨g, G.C, dx, _, _, rfl, hgi2, G.cl, G.n2, rfs_2 lg sh td, ?_⟩
      walk_at "rd"
      have ED : D ≠ E := fun z => by
        obtain ⟨kvs, k1, _⟩ := hD1
        rw [z, nE] at k1
        cases k1
      obtain ⟨kvs, k1, k2, k3⟩ := (SetD.nil hE).put (v := .bl true) (r := j) (by simp [sizeLine_eq])
      rw [hE] at k1
      cases k1
      refine ⟨hE, [(Sum.inl ((j : Nat) : Int), .bl true)], rfl, by show 1 ≤ 15; decide, ?_⟩
      have a3 : Adv [E] H2 (upd H2 E (.dK (putK [] (Sum.inl ((j : Nat) : Int)) (.bl true)))) := Adv.set (by simp)
      have a03 : Adv [] H (upd H2 E (.dK (putK [] (Sum.inl ((j : Nat) : Int)) (.bl true)))) := a02.mut nE0
      replace hD := hD.adv a3 (by simpa using ED)
      have em : mergeK [] [((Sum.inl ((j : Nat) : Int) : Key), V.bl true)] = putK [] (Sum.inl ((j : Nat) : Int)) (.bl true) := rfl
      rw [em]
      generalize (upd H2 E (.dK (putK [] (Sum.inl ((j : Nat) : Int)) (.bl true)))) = H3 at k3 hD a03
      walk_at "rd"
      refine ⟨by show 2 ≤ sizeLine; decide, fun t nt => ?_⟩
      have at_ : Adv [] H3 (upd H3 t (.tup [.ref D, .ref E])) := Adv.new nt
      have ht : (upd H3 t (.tup [.ref D, .ref E])) t = some (.tup [.ref D, .ref E]) := upd_same
      replace hD := hD.same at_
      replace k3 := k3.same at_
      have a04 := a03.trans at_
      generalize (upd H3 t (.tup [.ref D, .ref E])) = H4 at at_ ht hD k3 a04
      walk_at "rd"
      refine ⟨by show 1 ≤ sizeLine; decide, fun L nL => ?_⟩
      have aL : Adv [] H4 (upd H4 L (.lst [.ref t])) := Adv.new nL
      have er : roomF lg ns ⟨le, ri, .box, pr, (mn : Nat)⟩ = [(boxRoom lg ns le mn, [j])] := by
        show [(boxRoom lg ns le ((mn : Nat) : Int).toNat, (ndA ns ((mn : Nat) : Int).toNat).parts)] = _
        rw [Int.toNat_natCast, ej]
        rfl
      rw [er] at q
      refine q L [.ref t] _ (a04.free (by simp) nL) upd_same ?_ (a04.trans aL)
      exact RmsAt.nil.snoc (ps := []) (p := (boxRoom lg ns le mn, [j])) ⟨t, D, E, rfl, aL.same _ _ ht, hD.same aL, k3.same aL⟩
    · refine iteN (by cases hrl : l.rule <;> first | exact absurd hrl eb | decide) ?_
      refine ⟨fun σ' H2 => ∃ (rb : Addr) (ri' : List Nat), σ' = [some (.ref g), some (.ref lt), some (.ref ta), some (.ref rb), some (.str l.rule.str), some (.ref tp), some (.int l.main), none, none, none, none] ∧ ri' = (if l.rule = .ifR ∧ lg = "intuit" then [] else l.right) ∧ Tp M H2 rb (nVl ri') ∧ Adv [] H H2, ?_, ?_⟩
      · walk_at "rd"
        refine ⟨g, G.C, dx, _, _, rfl, hgi, G.cl, G.n1, rfs_1 lg sh td, ?_⟩
        walk_at "rd"
        refine ⟨lg, l.rule, rfl, ?_⟩
        walk_at "rd"
        refine iteB (fun e => ?_) (fun e => ?_)
        · have e' : l.rule = .ifR ∧ lg = "intuit" := by simpa using e
          walk_at "rd"
          refine ⟨Nat.zero_le _, fun p np => ?_⟩
          exact ⟨p, [], rfl, (if_pos e').symm, .inl ⟨fun z => al p z np, upd_same⟩, Adv.new np⟩
        · have e' : ¬ (l.rule = .ifR ∧ lg = "intuit") := by simpa using e
          walk_at "rd"
          exact ⟨tb, l.right, rfl, (if_neg e').symm, tpb, Adv.refl _ _⟩
      rintro σ' H2 ⟨rb, ri', rfl, er, tpr, a2⟩
      have er2 : roomF lg ns l = (addF l.rule (ndA ns l.main.toNat) l.main.toNat).map fun p => (l.left ++ p.1, ri' ++ p.2) := by
        unfold roomF
        rw [if_neg eb, er]
      have zr : ri'.length ≤ 100000 := by
        rw [er]
        split
        · simp
        · exact ok.z2
      rw [er2] at q
      clear er er2
      walk_at "rd"
      refine ⟨Nat.zero_le _, fun F nF => ?_⟩
      have nF0 : H F = none := a2.free (by simp) nF
      have a3 : Adv [] H2 (upd H2 F (.lst [])) := Adv.new nF
      have hF : (upd H2 F (.lst [])) F = some (.lst []) := upd_same
      have a03 := a2.trans a3
      replace tpr := (tpr.fresh nF).adv a3.nil
      generalize (upd H2 F (.lst [])) = H3 at a3 hF a03 tpr
      have hgi3 := a03.same _ _ hgi
      walk_at "rd"
      unfold iList
      walk_at "rd"
      refine ⟨g, G.C, dx, _, _, rfl, hgi3, G.cl, G.n2, rfs_2 lg sh td, ?_⟩
      walk_at "rd"
      have nF3 : H3 F ≠ none := by rw [hF]; simp
      have al3 : ∀ b ∈ F :: M, H3 b ≠ none := fun b hb => by
        rcases List.mem_cons.mp hb with rfl | hb
        · exact nF3
        · exact alloc_adv al a03 (by simp) b hb
      have hrs3 : IsDs (F :: M) H3 (ns.map Nd.data) rs := ((hrs.adv a2.nil).fresh nF).adv a3.nil
      refine added_of al3 (a03.same _ _ hsh) hrs3 ok eb kf nF3 fun L1 ws H4 h1 n1 hI a4 => ?_
      refine ⟨L1, rfl, ⟨_, SqL.of h1⟩, ?_⟩
      have wl := hI.len
      rw [List.length_map] at wl
      have al2 : (addF l.rule (ndA ns l.main.toNat) l.main.toNat).length ≤ 2 := by cases l.rule <;> simp [addF]
      have ap5 : ∀ p ∈ addF l.rule (ndA ns l.main.toNat) l.main.toNat, p.1.length ≤ 2 ∧ p.2.length ≤ 2 := add_le _ _ _
      generalize addF l.rule (ndA ns l.main.toNat) l.main.toNat = ad at q hI wl al2 ap5
      have a04 := a03.trans a4
      refine for_list (a := L1) (xs := ws) (fun i σ' H' => ∃ (y8 y9 : Option V) (vs : List V), σ' = [some (.ref g), some (.ref lt), some (.ref ta), some (.ref rb), some (.str l.rule.str), some (.ref tp), some (.int l.main), some (.ref F), y8, y9, none] ∧ H' F = some (.lst vs) ∧ RmsAt H' ((ad.take i).map fun p => (l.left ++ p.1, ri' ++ p.2)) vs ∧ Adv [] H H' ∧ Adv [F] H4 H')
        ⟨_, _, [], rfl, a4.same _ _ hF, RmsAt.nil, a04, Adv.refl _ _⟩ ?_ ?_ ?_
      · rintro i σ' H' hi ⟨y8, y9, vs, rfl, _, _, _, a⟩
        exact SqL.of (a _ _ (by simpa using n1) h1)
      · rintro i x σ' H' hx ⟨y8, y9, vs, rfl, hF', hR, a, aF⟩
        obtain ⟨d, hd, hxd⟩ := hI.getV hx
        rw [List.getElem?_map, Option.map_eq_some_iff] at hd
        obtain ⟨p, hp, rfl⟩ := hd
        obtain ⟨pl1, pl2⟩ := ap5 p (List.mem_of_getElem? hp)
        obtain ⟨t, tv, rfl, tpt, it⟩ := hxd.tupE
        have it' : IsDs (F :: M) H4 [.tuple (nD p.1), .tuple (nD p.2)] tv := it
        unfold IsDs at it'
        obtain ⟨v1, r1, rfl, i1, it'⟩ := it'
        unfold IsDs at it'
        obtain ⟨v2, r2, rfl, i2, it'⟩ := it'
        unfold IsDs at it'
        subst it'
        obtain ⟨t1, u1, rfl, tp1, j1⟩ := i1.tupE
        obtain ⟨t2, u2, rfl, tp2, j2⟩ := i2.tupE
        obtain rfl := nD_of j1
        obtain rfl := nD_of j2
        have sub : ∀ b ∈ [F], b ∈ F :: M := by simp
        have sqt := (tpt.adv (aF.more sub)).sq (K := K) A.W
        have vl := hR.len
        rw [List.length_map, List.length_take] at vl
        refine rd_gtup sqt rfl ?_
        walk_at "rd"
        have none0 : ∀ {X : Hp}, ∀ b ∈ ([] : List Addr), X b ≠ none := fun b hb => by cases hb
        unfold tDc iTup
        walk_at "rd"
        refine rd_catM (M := []) A.W none0 ((tpa.adv a.nil).less (by simp)) ((tp1.adv (aF.more sub)).less (by simp)) (by rw [nVl_len, nVl_len, sizeLine_eq]; have := ok.z1; omega) fun c1 H5 tc1 a5 => ?_
        rw [show nVl l.left ++ nVl p.1 = nVl (l.left ++ p.1) from (List.map_append ..).symm] at tc1
        have sq1 := tc1.sq (K := K) A.W
        refine ⟨c1, rfl, ⟨_, sq1⟩, fun D nD => ?_⟩
        refine dc_setT (K := K) (a := c1) (l.left ++ p.1) nD sq1 (by rw [List.length_append]; have := ok.z1; omega) ?_ ?_
        · intro i r H' T _ aH hT
          exact ⟨rfl, _, rfl, hT⟩
        intro H6 a6 hD
        have a56 := a5.trans a6
        have aR : Adv (F :: M) H3 H6 := (a4.nil.trans (aF.more sub)).trans a56.nil
        walk_at "rd"
        refine rd_catM (M := []) A.W none0 ((tpr.adv aR).less (by simp)) ((tp2.adv ((aF.more sub).trans a56.nil)).less (by simp)) (by rw [nVl_len, nVl_len, sizeLine_eq]; omega) fun c2 H7 tc2 a7 => ?_
        rw [show nVl ri' ++ nVl p.2 = nVl (ri' ++ p.2) from (List.map_append ..).symm] at tc2
        have sq2 := tc2.sq (K := K) A.W
        refine ⟨c2, rfl, ⟨_, sq2⟩, fun E2 nE => ?_⟩
        refine dc_setT (K := K) (a := c2) (ri' ++ p.2) nE sq2 (by rw [List.length_append]; omega) ?_ ?_
        · intro i r H' T _ aH hT
          exact ⟨rfl, _, rfl, hT⟩
        intro H8 a8 hE
        have a78 := a7.trans a8
        have aA := a56.trans a78
        replace hD := hD.same a78
        walk_at "rd"
        refine ⟨by show 2 ≤ sizeLine; decide, fun tt nt => ?_⟩
        have at_ : Adv [] H8 (upd H8 tt (.tup [.ref D, .ref E2])) := Adv.new nt
        have ht : (upd H8 tt (.tup [.ref D, .ref E2])) tt = some (.tup [.ref D, .ref E2]) := upd_same
        replace hD := hD.same at_
        replace hE := hE.same at_
        have aB := aA.trans at_
        generalize (upd H8 tt (.tup [.ref D, .ref E2])) = H9 at at_ ht hD hE aB
        have hF9 := aB.same _ _ hF'
        replace hR := hR.adv aB
        walk_at "rd"
        refine rd_app hF9 (by rw [sizeLine_eq]; omega) ?_
        have aC : Adv [F] H9 (upd H9 F (.lst (vs ++ [.ref tt]))) := Adv.set (by simp)
        refine ⟨_, _, vs ++ [.ref tt], rfl, upd_same, ?_, (a.trans aB).mut nF0, (aF.trans aB.nil).trans aC⟩
        rw [List.take_add_one, hp, List.map_append]
        exact (hR.set hF9).snoc ((show RmAt H9 (l.left ++ p.1, ri' ++ p.2) (.ref tt) from ⟨tt, D, E2, rfl, ht, hD, hE⟩).set hF9)
      · rintro σ' H' ⟨y8, y9, vs, rfl, hF', hR, a, aF⟩
        rw [wl, List.take_length] at hR
        walk_at "rd"
        exact q F vs H' nF0 hF' hR a
end

set_option Elab.async false
set_option linter.all false
set_option maxRecDepth 100000
set_option maxHeartbeats 4000000
open PySem PySem.Spec PyProof.Rows L2 LL
open C8 (pss_cut)
section
variable [KW]
variable {P : Program} {w : World} {K : PySem.W.Frag} {mg : Str → Option Value} {base : Heap}
/-! ### is_right -/
theorem roomF_len {lg : Str} {ns : List Nd} {th : List Nat} {l : Ln} (h : askB lg ns th l = true) : (roomF lg ns l).length = l.rule.cnt := by
  have kf := ask_fits h
  unfold roomF
  obtain ⟨le, ri, r, pr, m⟩ := l
  dsimp only at *
  cases r <;> first | rfl | skip
  all_goals
    rw [if_neg (by intro z; cases z), List.length_map]
    first | rfl | skip
  all_goals
    have k := kf rfl
    cases e : ndA ns m.toNat <;> rw [e] at k <;> first | (cases k; done) | rfl
theorem zip_all {ls : List Ln} (pr : List Nat) (rm : List (List Nat × List Nat)) (h : pr.length = rm.length) : ((pr.zip rm).all fun p => match ls[p.1]? with | some k => fitB k p.2.1 p.2.2 | none => false) = (List.range pr.length).all fun i => (match ls[pr.getD i 0]?, rm[i]? with | some k, some p => fitB k p.1 p.2 | _, _ => false) := by
  induction pr generalizing rm with
  | nil => rfl
  | cons a pr ih =>
    cases rm with
    | nil => cases h
    | cons b rm =>
      rw [List.zip_cons_cons, List.all_cons, List.length_cons, List.range_succ_eq_map, List.all_cons, List.all_map, ih rm (Nat.succ.inj h)]
      have e0 : (a :: pr).getD 0 0 = a := rfl
      have e1 : (b :: rm)[0]? = some b := rfl
      congr 1
      show _ = (match ls[(a :: pr).getD 0 0]?, (b :: rm)[0]? with | some k, some p => fitB k p.1 p.2 | _, _ => false)
      rw [e0, e1]
      cases ls[a]? <;> rfl
structure IrP (C : Addr) (vs : List V) (H : Hp) (Q : VK) : Prop where
  ex : ∃ (M : List Addr) (g : Addr) (v : V) (lt : Addr) (lg : Str) (ns : List Nd) (th : List Nat) (l : Ln) (ls : List Ln) (lvs : List V), vs = [.ref g, v, .ref lt] ∧ RuAt C M H g lg ns th ∧ Is M H l.data v ∧ LnOk ns l ∧ logicOk lg = true ∧ (∀ b ∈ M, H b ≠ none) ∧
    H lt = some (.lst lvs) ∧ (∀ (i : Nat) (k : Ln), ls[i]? = some k → ∃ x, lvs[i]? = some x ∧ Is M H k.data x) ∧ (∀ k ∈ ls, k.left.length ≤ 100000 ∧ k.right.length ≤ 100000) ∧ (∀ p ∈ l.prem, p < ls.length) ∧ l.prem.length = l.rule.cnt ∧ ∀ H', Adv [] H H' → Q (.bl (rightB lg ns th ls l)) H'
def spIr (C : Addr) : Sp := fun vs H Q _ => IrP C vs H Q
theorem ok_is_right (A : All K mg w) (G : Rul K mg) : FnOk P w K mg base CX0 4 G.fT G.dT ["self", "line", "lines"] (spIr G.C) := by
  refine G.FT.ok sc_Rules_is_right (fun vs H Q E h => ?_) (fun cdv Ar outer s H vs Q E hr h => ?_)
  · obtain ⟨M, g, v, lt, lg, ns, th, l, ls, lvs, rfl, _⟩ := h.ex
    rfl
  · obtain ⟨M, g, v, lt, lg, ns, th, l, ls, lvs, rfl, hg, hv, ok, hlg, al, hlt, hls, hz, hp, hcnt, q⟩ := h.ex
    refine ⟨_, (pss_cons (ps_if (pt_not (pt_val (pe_meth (pv 0) G.cl G.mA (ok_asks_main A G) (hr.mono (by omega)) G.bA .nil pass0 (pa_cons (pv 1) pa_nil))))
    (pss_one (ps_ret pe_bl))
    pss_nil)
  (pss_cons (ps_set (i := 3) sc_Rules_is_right.nd rfl (Or.inl rfl) (pe_meth (pv 0) G.cl G.mR (ok_rooms A G) (hr.mono (by omega)) G.bR .nil pass0 (pa_cons (pv 1) pa_nil)))
  (pss_one (ps_ret (pe_callB (cr_all rfl) (by rfl) A.T.all (by decide +kernel) (pa_cons (pe_lc (own := [("premise", 4), ("room", 5)]) (g := (gTup K 2 (gCons (gName 4) (gCons (gName 5) gNil)))) rfl sc_Rules_is_right.nd (pi_zipM (by rfl) A.T.zip (pa_cons (pe_ix ix_tup (pv 1) pe_int (fun _ _ => rfl)) (pa_cons (pv 3) pa_nil))) (blkOk_by (own := [("premise", 4), ("room", 5)]) (N := ["self", "line", "lines", "rooms", "premise", "room"]) (sc := defScope s_Rules_is_right) (by decide +kernel)) (fun _ _ _ _ _ => (pg_tupK K rfl rfl (pgs_cons (pg_name (i := 4) sc_Rules_is_right.nd rfl (Or.inl rfl)) (pgs_cons (pg_name (i := 5) sc_Rules_is_right.nd rfl (Or.inl rfl)) pgs_nil)))) (fun _ _ _ _ _ => pts_nil) (fun _ _ _ _ _ => (pe_call (ok_fits A) (hr.mono (by omega)) rfl A.fits.m A.fits.F.kp A.fits.b .nil pass0 (pa_cons (pe_ix (ix_listK K rfl) (pv 2) (pv 4) (fun _ _ => rfl)) (pa_cons (pv 5) pa_nil))))) pa_nil)))))), ?_⟩
    obtain ⟨dx, sh, td, rs, hgi, hsh, hrs, hth⟩ := hg.ex
    walk_at "rd"
    refine ⟨g, dx, _, rfl, hgi, rfs_no lg sh td (by decide +kernel) (by decide +kernel) (by decide +kernel), ?_⟩
    walk_at "rd"
    refine ⟨⟨M, g, v, lg, ns, th, l, rfl, hg, hv, ok, hlg, fun H1 a1 => ?_⟩⟩
    have eq1 : rightB lg ns th ls l = (askB lg ns th l && (l.prem.zip (roomF lg ns l)).all fun p => match ls[p.1]? with | some k => fitB k p.2.1 p.2.2 | none => false) := rfl
    refine ⟨_, rfl, iteB (fun e => ?_) (fun e => ?_)⟩
    · have e' : askB lg ns th l = false := by simpa using e
      have q' := q H1 a1
      rw [eq1, e', Bool.false_and] at q'
      exact q'
    · have e' : askB lg ns th l = true := by simpa using e
      rw [eq1, e', Bool.true_and] at q
      walk_at "rd"
      refine ⟨g, dx, _, rfl, a1.same _ _ hgi, rfs_no lg sh td (by decide +kernel) (by decide +kernel) (by decide +kernel), ?_⟩
      walk_at "rd"
      refine ⟨⟨M, g, v, lg, ns, th, l, rfl, hg.adv a1, hv.adv a1.nil, ok, fun b hb z => al b hb (a1.free (by simp) z), e', fun L ws H2 nL hL hW a2 => ?_⟩⟩
      obtain ⟨vt, us, rfl, htp, hs⟩ := hv.tupE
      obtain ⟨va, vb, vc, vp, vm, rfl, ha, hb, hc, hpr, hm⟩ := IsDs.five hs
      obtain ⟨tp, up, rfl, tpp, ip⟩ := hpr.tupE
      obtain rfl := nD_of ip
      have a12 := a1.trans a2
      have sq := (htp.adv a12.nil).sq (K := K) A.W
      have sqp := (tpp.adv a12.nil).sq (K := K) A.W
      clear ha hb hc hm hs hpr ip
      walk_at "rd"
      unfold tLc iZipM
      walk_at "rd"
      have al2 : l.prem.length = (roomF lg ns l).length := by rw [roomF_len e', hcnt]
      refine ⟨tp, L, _, _, rfl, sqp, SqL.of hL, fun D nD => ?_⟩
      have hlt2 := a12.same _ _ hlt
      have hlt0 : l.prem.length ≤ 1000000 := by rw [hcnt]; cases l.rule <;> decide
      refine lc_zipM (fun i => V.bl (match ls[l.prem.getD i 0]?, (roomF lg ns l)[i]? with | some k, some p => fitB k p.1 p.2 | _, _ => false)) nD sqp (SqL.of hL) (by rw [nVl_len, al2, hW.len]) (by rw [nVl_len]; exact hlt0) ?_ ?_
      · intro i x y T H' acc R hx hy aH hT hD k
        have hlp : i < l.prem.length := by
          have := (List.getElem?_eq_some_iff.mp hx).1
          rwa [nVl_len] at this
        obtain ⟨r, hr', rfl⟩ := nVl_get hx
        have ed : l.prem.getD i 0 = r := by rw [List.getD_eq_getElem?_getD, hr']; rfl
        have hrl : r < ls.length := hp r (List.mem_of_getElem? hr')
        have er : ls[r]? = some ls[r] := List.getElem?_eq_getElem hrl
        obtain ⟨z, hz1, hz2⟩ := hls r _ er
        have hri : i < (roomF lg ns l).length := by rw [← al2]; exact hlp
        have ei : (roomF lg ns l)[i]? = some (roomF lg ns l)[i] := List.getElem?_eq_getElem hri
        obtain ⟨y', hy', t, d1, d2, rfl, ht, h1, h2⟩ := (hW.adv aH).at_ i _ ei
        rw [hy] at hy'
        cases hy'
        rw [ed, er, ei] at k
        have hlt' := aH.same _ _ hlt2
        have hz2' := hz2.adv (a12.trans aH).nil
        obtain ⟨zz1, zz2⟩ := hz _ (List.mem_of_getElem? er)
        refine rd_gtup (SqT.of hT) rfl ?_
        walk_at "rd"
        refine ⟨rfl, ?_⟩
        walk_at "rd"
        exact ⟨M, z, ls[r], t, d1, d2, _, _, rfl, hz2', ht, h1, h2, by omega, by omega, fun H5 a5 => k H5 (a5.same _ _ hD) (aH.trans a5)⟩
      · intro H3 a3 hD
        refine ⟨D, (List.range l.prem.length).map fun i => (match ls[l.prem.getD i 0]?, (roomF lg ns l)[i]? with | some k, some p => fitB k p.1 p.2 | _, _ => false), rfl, .inl (.inl ?_), ?_⟩
        · rw [nVl_len] at hD
          rw [List.map_map]
          exact hD
        · rw [all_idN]
          have q' := q H3 (a12.trans a3)
          rw [zip_all _ _ al2] at q'
          exact q'
end

set_option Elab.async false
set_option linter.all false
set_option maxRecDepth 100000
set_option maxHeartbeats 4000000
open PySem PySem.Spec PyProof.Rows L2 LL
open C8 (pss_cut)
section
variable [KW]
variable {P : Program} {w : World} {K : PySem.W.Frag} {mg : Str → Option Value} {base : Heap}
/-! ### begins -/
theorem cutV_all (xs : List V) : cutV xs none (some (xs.length : Nat)) = xs := by
  have e1 : HT.sIx xs.length 0 none = 0 := rfl
  have e2 : HT.sIx xs.length xs.length (some (xs.length : Nat)) = xs.length := (HT.sIx_nat _ _ _).trans (Nat.min_self _)
  unfold cutV
  rw [e1, e2, List.drop_zero, Nat.sub_zero, List.take_length]
theorem IsDs.two {M : List Addr} {H : Hp} {a b : PyData} {vs : List V} (h : IsDs M H [a, b] vs) : ∃ va vb, vs = [va, vb] ∧ Is M H a va ∧ Is M H b vb := by
  unfold IsDs at h
  obtain ⟨va, ws, rfl, h1, h⟩ := h
  unfold IsDs at h
  obtain ⟨vb, ws, rfl, h2, h⟩ := h
  unfold IsDs at h
  subst h
  exact ⟨va, vb, rfl, h1, h2⟩
structure BegP (vs : List V) (H : Hp) (Q : VK) : Prop where
  ex : ∃ (M : List Addr) (a b : Addr) (xs ys : List V) (ns : List Nd), vs = [.ref a, .ref b] ∧ H a = some (.lst xs) ∧ H b = some (.lst ys) ∧ IsDs M H (ns.map Nd.data) xs ∧ IsDs M H (ns.map Nd.data) ys ∧ ∀ H', Adv [] H H' → Q (.bl true) H'
def spBeg : Sp := fun vs H Q _ => BegP vs H Q
theorem ok_begins (A : All K mg w) : FnOk P w K mg base CX0 1 A.begins.f A.begins.fd ["sheet", "start"] spBeg := by
  refine A.begins.F.ok sc_begins (fun vs H Q E h => ?_) (fun cdv Ar outer s H vs Q E hr h => ?_)
  · obtain ⟨M, a, b, xs, ys, ns, rfl, _⟩ := h.ex
    rfl
  · obtain ⟨M, a, b, xs, ys, ns, rfl, ha, hb, dx, dy, q⟩ := h.ex
    refine ⟨_, (pss_one (ps_ret (pe_cmpR (op_eqD hr.units) (pe_slice sl_list (pv 0) po_none (po_some (pe_callB call_len_seq (by rfl) A.T.len PySem.boot_len (pa_cons (pv 1) pa_nil)))) (pv 1) (nomark _)))), ?_⟩
    walk_at "rd"
    intro p np
    have ec : cutV xs none (some (ys.length : Nat)) = xs := by
      have e1 := dx.len
      have e2 := dy.len
      have e : ys.length = xs.length := by omega
      rw [e]
      exact cutV_all xs
    rw [ec]
    have a1 : Adv [] H (upd H p (.lst xs)) := Adv.new np
    walk_at "rd"
    refine ⟨.list (ns.map Nd.data), .list (ns.map Nd.data), .lst (SqL.of upd_same) (dp_nds A.W (dx.adv a1.nil)), .lst (SqL.of (a1.same _ _ hb)) (dp_nds A.W (dy.adv a1.nil)), nds_shaped ns, nds_shaped ns, ?_⟩
    rw [eqv_sh (nds_shaped ns)]
    exact q _ a1
/-! ### is_outside -/
def clD (ns : List Nd) (th le ri : List Nat) : PyData := .tuple [.list (ns.map Nd.data), .tuple (nD th), .tuple (nD le), .tuple (nD ri)]
def ppD (ns : List Nd) (ls : List Ln) : PyData := .tuple [.list (ns.map Nd.data), .list (ls.map Ln.data)]
structure OutP (vs : List V) (H : Hp) (Q : VK) : Prop where
  ex : ∃ (M : List Addr) (lg : Str) (c p : V) (ns : List Nd) (th le ri : List Nat) (ls : List Ln), vs = [.str lg, c, p] ∧ Is M H (clD ns th le ri) c ∧ Is M H (ppD ns ls) p ∧ ls ≠ [] ∧
    wrongD 5000 (logicB lg) (.list (ns.map Nd.data)) = none ∧ ns.length ≤ 1000000 ∧ ∀ H', Adv [] H H' → Q (.bl true) H'
def spOut : Sp := fun vs H Q _ => OutP vs H Q
theorem ok_is_outside (A : All K mg w) : FnOk P w K mg base CX0 5 A.is_outside.f A.is_outside.fd ["logic", "claim", "paper"] spOut := by
  refine A.is_outside.F.ok sc_is_outside (fun vs H Q E h => ?_) (fun cdv Ar outer s H vs Q E hr h => ?_)
  · obtain ⟨M, lg, c, p, ns, th, le, ri, ls, rfl, _⟩ := h.ex
    rfl
  · obtain ⟨M, lg, c, p, ns, th, le, ri, ls, rfl, hc, hp, hne, hw, hz, q⟩ := h.ex
    obtain ⟨tM, mM⟩ := A.C.mostP
    refine ⟨_, (pss_cons (ps_if (pt_not (pt_val (pe_call (ok_is_tuple_of A) (hr.mono (by omega)) rfl A.is_tuple_of.m A.is_tuple_of.F.kp A.is_tuple_of.b .nil pass0 (pa_cons (pv 2) (pa_cons pe_int pa_nil)))))
    (pss_one (ps_ret pe_bl))
    pss_nil)
  (pss_cons (ps_asg (pv 2) (pg_tup rfl (pgs_cons (pg_name (i := 3) sc_is_outside.nd rfl (Or.inl rfl)) (pgs_cons (pg_name (i := 4) sc_is_outside.nd rfl (Or.inl rfl)) pgs_nil))))
  (pss_cons (ps_if (PW.pt (pw_or (pt_cmpR op_notN (pe_call (ok_wrong_row A) (hr.mono (by omega)) rfl A.wrong_row.m A.wrong_row.F.kp A.wrong_row.b .nil pass0 (pa_cons (pv 3) (pa_cons (pe_glob (v := .int 5000) rfl mM ⟨_, rfl⟩) (pa_cons (pe_call (ok_is_boxed A) (hr.mono (by omega)) rfl A.is_boxed.m A.is_boxed.F.kp A.is_boxed.b .nil pass0 (pa_cons (pv 0) pa_nil)) pa_nil)))) pe_non (nomark _)) (pw_or1 (pt_not (pt_val (pe_call (ok_begins A) (hr.mono (by omega)) rfl A.begins.m A.begins.F.kp A.begins.b .nil pass0 (pa_cons (pv 3) (pa_cons (pe_ix ix_tup (pv 1) pe_int (fun _ _ => rfl)) pa_nil))))))))
    (pss_one (ps_ret pe_bl))
    pss_nil)
  (pss_one (ps_ret (pe_and (pe_callB call_isi (by rfl) A.T.isinstance (by decide +kernel) (pa_cons (pv 4) (pa_cons (pe_bltn (v := .ty "list") (by rfl) A.T.list (by decide +kernel) rfl) pa_nil))) (pe_one (pe_cmpR op_gt (pe_callB call_len_seq (by rfl) A.T.len PySem.boot_len (pa_cons (pv 4) pa_nil)) pe_int (nomark _))))))))), ?_⟩
    have hp0 := hp.less (N := []) (by simp)
    obtain ⟨ca, cs, rfl, tc, ic⟩ := hc.tupE
    obtain ⟨v1, v2, v3, v4, rfl, c1, _, _, _⟩ := IsDs.four ic
    obtain ⟨s1, xs, rfl, _, hs1, d1⟩ := c1.lstE
    have sqc := tc.sq (K := K) A.W
    walk_at "rd"
    refine ⟨p, _, 2, rfl, hp0, ?_⟩
    walk_at "rd"
    obtain ⟨pa, ps, rfl, tp, ip⟩ := hp.tupE
    obtain ⟨p1, p2, rfl, ip1, ip2⟩ := IsDs.two ip
    obtain ⟨s2, ys, rfl, _, hs2, d2⟩ := ip1.lstE
    obtain ⟨lt, lvs, rfl, _, hlt, dl⟩ := ip2.lstE
    have sqp := tp.sq (K := K) A.W
    have hlv : 0 < lvs.length := by
      rw [dl.len, List.length_map]
      exact List.length_pos_iff.mpr hne
    refine rd_gtup sqp rfl ?_
    walk_at "rd"
    refine ⟨lg, rfl, fun H1 a1 => ?_⟩
    walk_at "rd"
    have is2 : Is M H (.list (ns.map Nd.data)) (.ref s2) := ip1
    refine ⟨.ref s2, .list (ns.map Nd.data), 5000, logicB lg, rfl, (is2.adv a1.nil).less (by simp), by decide, fun ds e => by cases e; rw [List.length_map]; exact hz, fun H2 a2 => ?_⟩
    rw [hw]
    have a12 := a1.trans a2
    have sqc2 := SqT.adv a12 sqc
    walk_at "rd"
    refine ⟨⟨M, s2, s1, ys, xs, ns, rfl, a12.same _ _ hs2, a12.same _ _ hs1, d2.adv a12.nil, d1.adv a12.nil, fun H3 a3 => ?_⟩⟩
    walk_at "rd"
    refine ⟨_, _, _, _, _, rfl, .ty _, ((ip2.adv (a12.trans a3).nil).less (N := []) (by simp)).ty A.W, k_list _, ?_⟩
    refine ⟨_, rfl, iteY (by simp [kitD, tyN]) ?_⟩
    have hlt3 := (a12.trans a3).same _ _ hlt
    walk_at "rd"
    have q' := q H3 (a12.trans a3)
    have e0 : decide ((0 : Int) < ((lvs.length : Nat) : Int)) = true := decide_eq_true (by omega)
    rw [e0]
    exact q'
/-! ### is_last -/
theorem tsT_shaped (a b : List Nat) : SeqAt.shaped (.tuple [.tuple (nD a), .tuple (nD b)]) = true := by
  obtain ⟨h1, h2⟩ := tsD_lay [a, b]
  have e : tsD [a, b] = [.tuple (nD a), .tuple (nD b)] := rfl
  rw [e] at h1 h2
  unfold SeqAt.shaped PyData.canLay0 PyData.depth
  rw [h1, Bool.true_and, decide_eq_true_eq]
  omega
structure LasP (vs : List V) (H : Hp) (Q : VK) : Prop where
  ex : ∃ (M : List Addr) (c : V) (lt : Addr) (lvs : List V) (ns : List Nd) (th le ri : List Nat) (ls : List Ln) (l : Ln), vs = [c, .ref lt] ∧ (∀ b ∈ M, H b ≠ none) ∧ Is M H (clD ns th le ri) c ∧ H lt = some (.lst lvs) ∧ IsDs M H ((ls ++ [l]).map Ln.data) lvs ∧ l.left = le ∧ l.right = ri ∧ ∀ H', Adv [] H H' → Q (.bl true) H'
def spLas : Sp := fun vs H Q _ => LasP vs H Q
theorem ok_is_last (A : All K mg w) : FnOk P w K mg base CX0 1 A.is_last.f A.is_last.fd ["claim", "lines"] spLas := by
  refine A.is_last.F.ok sc_is_last (fun vs H Q E h => ?_) (fun cdv Ar outer s H vs Q E hr h => ?_)
  · obtain ⟨M, c, lt, lvs, ns, th, le, ri, ls, l, rfl, _⟩ := h.ex
    rfl
  · obtain ⟨M, c, lt, lvs, ns, th, le, ri, ls, l, rfl, al, hc, hlt, dl, el, er, q⟩ := h.ex
    refine ⟨_, (pss_one (ps_ret (pe_cmpR (op_eqD hr.units) (pe_slice sl_tupA (pe_ix ix_list (pv 1) (pe_op op_sub (pe_callB call_len_seq (by rfl) A.T.len PySem.boot_len (pa_cons (pv 1) pa_nil)) pe_int) (fun _ _ => rfl)) po_none (po_some pe_int)) (pe_slice sl_tupA (pv 0) (po_some pe_int) po_none) (nomark _)))), ?_⟩
    obtain ⟨ca, cs, rfl, tc, ic⟩ := hc.tupE
    obtain ⟨v1, v2, v3, v4, rfl, c1, c2, c3, c4⟩ := IsDs.four ic
    have hll : lvs.length = ls.length + 1 := by rw [dl.len]; simp
    have el2 : ((ls ++ [l]).map Ln.data)[ls.length]? = some l.data := by simp
    obtain ⟨z, hz1, hz2⟩ := dl.get el2
    obtain ⟨la, us, rfl, tl, il⟩ := hz2.tupE
    obtain ⟨w1, w2, w3, w4, w5, rfl, i1, i2, i3, i4, i5⟩ := IsDs.five il
    walk_at "rd"
    have ea : atI lvs (((lvs.length : Nat) : Int) - 1) = some (.ref la) := by
      have : ((lvs.length : Nat) : Int) - 1 = ((ls.length : Nat) : Int) := by omega
      rw [this]
      exact atI_nat hz1
    refine rd_ixL hlt ea ?_
    walk_at "rd"
    refine rd_slM A.W al tl fun r H1 t1 a1 => ?_
    walk_at "rd"
    refine rd_slM A.W (fun b hb z => al b hb (a1.free (by simp) z)) (tc.adv a1.nil) fun r2 H2 t2 a2 => ?_
    have sr := (t1.adv a2.nil).sq (K := K) A.W
    have sr2 := t2.sq (K := K) A.W
    subst el er
    obtain ⟨f1, u1, rfl, g1, h1⟩ := i1.tupE
    obtain ⟨f2, u2, rfl, g2, h2⟩ := i2.tupE
    obtain ⟨f3, u3, rfl, g3, h3⟩ := c3.tupE
    obtain ⟨f4, u4, rfl, g4, h4⟩ := c4.tupE
    obtain rfl := nD_of h1
    obtain rfl := nD_of h2
    obtain rfl := nD_of h3
    obtain rfl := nD_of h4
    have a12 := a1.trans a2
    have dr : ∀ {f : Addr} {rows : List Nat}, Tp M H f (nVl rows) → Dp K H2 (.ref f) (.tuple (nD rows)) := fun g => .tup ((g.adv a12.nil).sq (K := K) A.W) (dp_nats _)
    have sh : SeqAt.shaped (.tuple [.tuple (nD l.left), .tuple (nD l.right)]) = true := tsT_shaped _ _
    refine ⟨.tuple [.tuple (nD l.left), .tuple (nD l.right)], .tuple [.tuple (nD l.left), .tuple (nD l.right)], .tup sr (.cons (dr g1) (.cons (dr g2) .nil)), .tup sr2 (.cons (dr g3) (.cons (dr g4) .nil)), sh, sh, ?_⟩
    rw [eqv_sh sh]
    exact q _ a12
end

set_option Elab.async false
set_option linter.all false
set_option maxRecDepth 100000
set_option maxHeartbeats 4000000
open PySem PySem.Spec PyProof.Rows L2 LL
open C8 (pss_cut)
section
variable [KW]
variable {P : Program} {w : World} {K : PySem.W.Frag} {mg : Str → Option Value} {base : Heap}
/-! ### wrong_place -/
/-- the line may stand -/
def goodB (lg : Str) (ns : List Nd) (th : List Nat) (cuts : Bool) (ls : List Ln) (k : Ln) : Bool := !(decide (k.rule = .cut) && !cuts) && rightB lg ns th ls k
/-- the first place whose line may not stand -/
def placeF (lg : Str) (ns : List Nd) (th : List Nat) (cuts : Bool) (ls : List Ln) : Nat → List Ln → Option Int
  | _, [] => none
  | i, k :: ks => if goodB lg ns th cuts ls k = true then placeF lg ns th cuts ls (i + 1) ks else some (i : Nat)
theorem placeF_at {lg : Str} {ns : List Nd} {th : List Nat} {cuts : Bool} {ls ks : List Ln} {i : Nat} {k : Ln} (h : ks[i]? = some k) : placeF lg ns th cuts ls i (ks.drop i) = if goodB lg ns th cuts ls k = true then placeF lg ns th cuts ls (i + 1) (ks.drop (i + 1)) else some (i : Nat) := by
  obtain ⟨hi, e⟩ := List.getElem?_eq_some_iff.mp h
  rw [List.drop_eq_getElem_cons hi, e]
  rfl
theorem cut_str (r : Rl) : decide (V.str r.str = V.str "cut") = decide (r = .cut) := by cases r <;> decide
structure WpP (vs : List V) (H : Hp) (Q : VK) : Prop where
  ex : ∃ (M : List Addr) (lg : Str) (c p : V) (cuts : Bool) (ns : List Nd) (th le ri : List Nat) (ls : List Ln) (l : Ln), vs = [.str lg, c, p, .bl cuts] ∧ (∀ b ∈ M, H b ≠ none) ∧ Is M H (clD ns th le ri) c ∧ Is M H (ppD ns (ls ++ [l])) p ∧ logicOk lg = true ∧
    wrongD 5000 (logicB lg) (.list (ns.map Nd.data)) = none ∧ ns.length ≤ 1000000 ∧ th.length ≤ 1000000 ∧ (∀ (i : Nat) (k : Ln), (ls ++ [l])[i]? = some k → WfL ns.length i k ∧ LnOk ns k ∧ sz k.data ≤ 1000000) ∧ l.left = le ∧ l.right = ri ∧
    ∀ H', Adv [] H H' → Q (resV (placeF lg ns th cuts (ls ++ [l]) 0 (ls ++ [l]))) H'
def spWp : Sp := fun vs H Q _ => WpP vs H Q
theorem ok_wrong_place (A : All K mg w) (G : Rul K mg) : FnOk P w K mg base CX0 6 A.wrong_place.f A.wrong_place.fd ["logic", "claim", "paper", "cuts"] spWp := by
  refine A.wrong_place.F.ok sc_wrong_place (fun vs H Q E h => ?_) (fun cdv Ar outer s H vs Q E hr h => ?_)
  · obtain ⟨M, lg, c, p, cuts, ns, th, le, ri, ls, l, rfl, _⟩ := h.ex
    rfl
  · obtain ⟨M, lg, c, p, cuts, ns, th, le, ri, ls, l, rfl, al, hc, hp, hlg, hw, hz, hzt, hls, el, er, q⟩ := h.ex
    refine ⟨_, (pss_cons (ps_if (pt_not (pt_val (pe_call (ok_is_outside A) (hr.mono (by omega)) rfl A.is_outside.m A.is_outside.F.kp A.is_outside.b .nil pass0 (pa_cons (pv 0) (pa_cons (pv 1) (pa_cons (pv 2) pa_nil))))))
    (pss_one (ps_ret (pe_un un_neg pe_int)))
    pss_nil)
  (pss_cons (ps_asg (pv 2) (pg_tup rfl (pgs_cons (pg_name (i := 4) sc_wrong_place.nd rfl (Or.inl rfl)) (pgs_cons (pg_name (i := 5) sc_wrong_place.nd rfl (Or.inl rfl)) pgs_nil))))
  (pss_cons (ps_set (i := 6) sc_wrong_place.nd rfl (Or.inl rfl) (pe_make G.mkc (ok_r_init A G) (hr.mono (by omega)) rfl G.m G.bI .nil pass0 (pa_cons (pv 0) (pa_cons (pv 4) (pa_cons (pe_ix ix_tup (pv 1) pe_int (fun _ _ => rfl)) pa_nil)))))
  (pss_cons (ps_for PassesOwn.never rfl (pi_enum (by rfl) A.T.enumerate (pa_cons (pv 5) pa_nil)) (pg_tup rfl (pgs_cons (pg_name (i := 7) sc_wrong_place.nd rfl (Or.inl rfl)) (pgs_cons (pg_name (i := 8) sc_wrong_place.nd rfl (Or.inl rfl)) pgs_nil)))
    (pss_one (ps_if (PW.pt (pw_or (pt_not (pt_val (pe_call (ok_is_line A) (hr.mono (by omega)) rfl A.is_line.m A.is_line.F.kp A.is_line.b .nil pass0 (pa_cons (pv 8) (pa_cons (pe_callB call_len_seq (by rfl) A.T.len PySem.boot_len (pa_cons (pv 4) pa_nil)) (pa_cons (pv 7) pa_nil)))))) (pw_or (PW.pt (pw_and (pt_cmpR op_eq (pe_ix ix_tup (pv 8) pe_int (fun _ _ => rfl)) pe_str (nomark _)) (pw_and1 (pt_not (pt_val (pv 3)))))) (pw_or1 (pt_not (pt_val (pe_meth (pv 6) G.cl G.mT (ok_is_right A G) (hr.mono (by omega)) G.bT .nil pass0 (pa_cons (pv 8) (pa_cons (pv 5) pa_nil)))))))))
    (pss_one (ps_ret (pv 7)))
    pss_nil)))
  (pss_one (ps_ret (pe_ifExp (pt_val (pe_call (ok_is_last A) (hr.mono (by omega)) rfl A.is_last.m A.is_last.F.kp A.is_last.b .nil pass0 (pa_cons (pv 1) (pa_cons (pv 5) pa_nil)))) pe_non (pe_callB call_len_seq (by rfl) A.T.len PySem.boot_len (pa_cons (pv 5) pa_nil))))))))), ?_⟩
    walk_at "rd"
    refine ⟨⟨M, lg, c, p, ns, th, le, ri, ls ++ [l], rfl, hc, hp, by simp, hw, hz, fun H1 a1 => ?_⟩⟩
    obtain ⟨ca, cs, rfl, tc, ic⟩ := hc.tupE
    obtain ⟨v1, v2, v3, v4, rfl, c1, c2, c3, c4⟩ := IsDs.four ic
    obtain ⟨ta, tvs, rfl, tt, it⟩ := c2.tupE
    obtain rfl := nD_of it
    obtain ⟨pa, ps, rfl, tp, ip⟩ := hp.tupE
    obtain ⟨p1, p2, rfl, ip1, ip2⟩ := IsDs.two ip
    obtain ⟨s2, ys, rfl, ns2, hs2, d2⟩ := ip1.lstE
    obtain ⟨lt, lvs, rfl, nlt, hlt, dl⟩ := ip2.lstE
    have sqc := SqT.adv a1 (tc.sq (K := K) A.W)
    have sqp := SqT.adv a1 (tp.sq (K := K) A.W)
    walk_at "rd"
    refine rd_gtup sqp rfl ?_
    walk_at "rd"
    intro g dx ng nd1 ngd
    have a2 : Adv [] H1 (upd (upd H1 dx (.own g)) g (.ins G.C dx [])) := (Adv.new nd1).trans (Adv.new (by rw [upd_ne (fun z => ngd z.symm)]; exact ng))
    have hg2 : (upd (upd H1 dx (.own g)) g (.ins G.C dx [])) g = some (.ins G.C dx []) := upd_same
    generalize (upd (upd H1 dx (.own g)) g (.ins G.C dx [])) = H2 at a2 hg2
    have a02 := a1.trans a2
    have ng0 : H g = none := a1.free (by simp) ng
    have gM : g ∉ M := fun z => al g z ng0
    refine ⟨⟨M, g, dx, s2, ta, lg, ys, ns, th, rfl, hg2, gM, a02.same _ _ hs2, (d2.fresh ng0).adv a02.nil, (tt.fresh ng0).adv a02.nil, hzt, fun H3 hR a3 => ?_⟩⟩
    have a03 : Adv [] H H3 := fun b o hb e => a3 b o (by simpa using ne_of_none e ng0) (a02 b o hb e)
    walk_at "rd"
    have hl := dl.len
    have hzs : ∀ kk ∈ ls ++ [l], kk.left.length ≤ 100000 ∧ kk.right.length ≤ 100000 := fun kk hk => by
      obtain ⟨j, hj⟩ := List.getElem?_of_mem hk
      exact ⟨(hls j kk hj).2.1.z1, (hls j kk hj).2.1.z2⟩
    unfold iEnum
    walk_at "rd"
    refine ⟨lt, lvs, rfl, SqL.of (a03.same _ _ hlt), ?_⟩
    refine for_enum (K := K) (a := lt) (xs := lvs) (fun i σ' H' => ∃ (v7 v8 : Option V), σ' = [some (.str lg), some (.ref ca), some (.ref pa), some (.bl cuts), some (.ref s2), some (.ref lt), some (.ref g), v7, v8] ∧ Adv [] H3 H' ∧ placeF lg ns th cuts (ls ++ [l]) 0 (ls ++ [l]) = placeF lg ns th cuts (ls ++ [l]) i ((ls ++ [l]).drop i))
      ⟨none, none, rfl, Adv.refl _ _, rfl⟩ (fun i σ' H' _ ⟨_, _, _, a', _⟩ => (a03.trans a').same _ _ hlt) ?_ ?_
    · rintro i x T σ' H' hx ⟨v7, v8, rfl, a', hw'⟩ nT
      obtain ⟨d, hd, hdx⟩ := dl.getV hx
      obtain ⟨k, hk, rfl⟩ : ∃ k, (ls ++ [l])[i]? = some k ∧ k.data = d := by
        rw [List.getElem?_map] at hd
        cases e : (ls ++ [l])[i]? with
        | none => rw [e] at hd; cases hd
        | some k => rw [e] at hd; exact ⟨k, rfl, Option.some.inj hd⟩
      rw [placeF_at hk] at hw'
      obtain ⟨wf, ok, hsz⟩ := hls i k hk
      have aT : Adv [] H3 (upd H' T (.tup [.int (i : Nat), x])) := a'.trans (Adv.new nT)
      have hT : (upd H' T (.tup [.int (i : Nat), x])) T = some (.tup [.int (i : Nat), x]) := upd_same
      have a0T := a03.trans aT
      generalize (upd H' T (.tup [.int (i : Nat), x])) = H4 at aT hT a0T
      obtain ⟨dx', sh', td', rs', hgi, _⟩ := hR.ex
      have hi : i < (ls ++ [l]).length := (List.getElem?_eq_some_iff.mp hk).1
      refine rd_gtup (SqT.of hT) rfl ?_
      have hs24 := a0T.same _ _ hs2
      walk_at "rd"
      have eys : ys.length = ns.length := by rw [d2.len, List.length_map]
      refine ⟨M, x, k.data, ns.length, i, ?_, hdx.adv a0T.nil, hsz, fun H5 a5 => ?_⟩
      · rw [eys]; rfl
      have eL : lineB ns.length i k.data = true := lineB_of wf
      rw [eL]
      walk_at "rd"
      obtain ⟨xa, us, rfl, tx, ix⟩ := hdx.tupE
      obtain ⟨w1, w2, w3, w4, w5, rfl, i1, i2, i3, i4, i5⟩ := IsDs.five ix
      obtain rfl := i3.strE
      have a05 := a0T.trans a5
      have aT5 := aT.trans a5
      have sqx := SqT.adv a05 (tx.sq (K := K) A.W)
      refine rd_ixT sqx (atI_nat (j := 2) rfl) ?_
      walk_at "rd"
      have ec : decide (V.str k.rule.str = V.str "cut") = decide (k.rule = .cut) := cut_str _
      rw [ec]
      have gb : goodB lg ns th cuts (ls ++ [l]) k = (!(decide (k.rule = .cut) && !cuts) && rightB lg ns th (ls ++ [l]) k) := rfl
      refine iteB (fun e => ?_) (fun e => ?_)
      · walk_at "rd"
        cases cuts with
        | false =>
          refine iteY rfl ?_
          walk_at "rd"
          rw [if_neg (by rw [gb, of_decide_eq_true e]; simp)] at hw'
          have q' := q H5 a05
          rw [hw'] at q'
          exact q'
        | true =>
          refine iteN rfl ?_
          walk_at "rd"
          refine ⟨g, dx', _, rfl, aT5.same _ _ hgi, rfs_no lg sh' td' (by decide +kernel) (by decide +kernel) (by decide +kernel), ?_⟩
          walk_at "rd"
          refine ⟨⟨M, g, .ref xa, lt, lg, ns, th, k, ls ++ [l], lvs, rfl, hR.adv aT5, hdx.adv a05.nil, ok, hlg, fun b hb z => al b hb (a05.free (by simp) z), a05.same _ _ hlt, fun j kk hj => (dl.adv a05.nil).get (by rw [List.getElem?_map, hj]; rfl), hzs, fun p hp => by have := wf.prem p hp; omega, wf.cnt, fun H6 a6 => ?_⟩⟩
          cases hb : rightB lg ns th (ls ++ [l]) k with
          | false =>
            rw [if_neg (by rw [gb, hb]; simp)] at hw'
            refine ⟨_, rfl, iteY rfl ?_⟩
            walk_at "rd"
            have q' := q H6 (a05.trans a6)
            rw [hw'] at q'
            exact q'
          | true =>
            rw [if_pos (by rw [gb, hb]; simp )] at hw'
            refine ⟨_, rfl, iteN rfl ?_⟩
            exact ⟨_, _, rfl, aT5.trans a6, hw'⟩
      · refine iteN rfl ?_
        walk_at "rd"
        refine ⟨g, dx', _, rfl, aT5.same _ _ hgi, rfs_no lg sh' td' (by decide +kernel) (by decide +kernel) (by decide +kernel), ?_⟩
        walk_at "rd"
        refine ⟨⟨M, g, .ref xa, lt, lg, ns, th, k, ls ++ [l], lvs, rfl, hR.adv aT5, hdx.adv a05.nil, ok, hlg, fun b hb z => al b hb (a05.free (by simp) z), a05.same _ _ hlt, fun j kk hj => (dl.adv a05.nil).get (by rw [List.getElem?_map, hj]; rfl), hzs, fun p hp => by have := wf.prem p hp; omega, wf.cnt, fun H6 a6 => ?_⟩⟩
        cases hb : rightB lg ns th (ls ++ [l]) k with
        | false =>
          rw [if_neg (by rw [gb, hb]; simp)] at hw'
          refine ⟨_, rfl, iteY rfl ?_⟩
          walk_at "rd"
          have q' := q H6 (a05.trans a6)
          rw [hw'] at q'
          exact q'
        | true =>
          rw [if_pos (by rw [gb, hb]; simp [e])] at hw'
          refine ⟨_, rfl, iteN rfl ?_⟩
          exact ⟨_, _, rfl, aT5.trans a6, hw'⟩
    · rintro σ' H' ⟨v7, v8, rfl, a', hw'⟩
      have e0 : (ls ++ [l]).drop lvs.length = [] := by
        rw [hl, List.length_map, List.drop_length]
      rw [e0] at hw'
      have e1 : placeF lg ns th cuts (ls ++ [l]) lvs.length [] = none := rfl
      rw [e1] at hw'
      walk_at "rd"
      have a0 := a03.trans a'
      refine ⟨⟨M, .ref ca, lt, lvs, ns, th, le, ri, ls, l, rfl, fun b hb z => al b hb (a0.free (by simp) z), hc.adv a0.nil, a0.same _ _ hlt, dl.adv a0.nil, el, er, fun H6 a6 => ?_⟩⟩
      walk_at "rd"
      have q' := q H6 (a0.trans a6)
      rw [hw'] at q'
      exact q'
end

set_option Elab.async false
set_option linter.all false
set_option maxRecDepth 100000
set_option maxHeartbeats 4000000
open PySem PySem.Spec PyProof.Rows L2 LL
open C8 (pss_cut)
section
variable [KW]
variable {P : Program} {w : World} {K : PySem.W.Frag} {mg : Str → Option Value} {base : Heap}
/-! ### wrong_line -/
theorem cm_none {b : Bool} {ns : List Nd} {th le ri : List Nat} (h : claimM 5000 b (clD ns th le ri) = none) : wrongD 5000 b (.list (ns.map Nd.data)) = none := by
  cases e : wrongD 5000 b (.list (ns.map Nd.data)) with
  | none => rfl
  | some i =>
    have h2 : claimM 5000 b (clD ns th le ri) = cw "BadSheet" (.int i) := cw_sheet e
    rw [h2] at h
    cases h
structure WlP (vs : List V) (H : Hp) (Q : VK) : Prop where
  ex : ∃ (M : List Addr) (lg : Str) (c p : V) (cuts : Bool) (ns : List Nd) (th le ri : List Nat) (ls : List Ln) (l : Ln), vs = [.str lg, c, p, .bl cuts] ∧ (∀ b ∈ M, H b ≠ none) ∧ Is M H (clD ns th le ri) c ∧ Is M H (ppD ns (ls ++ [l])) p ∧ logicOk lg = true ∧
    claimM 5000 (logicB lg) (clD ns th le ri) = none ∧ sz (clD ns th le ri) ≤ 1000000 ∧ (∀ (i : Nat) (k : Ln), (ls ++ [l])[i]? = some k → WfL ns.length i k ∧ LnOk ns k ∧ sz k.data ≤ 1000000) ∧ l.left = le ∧ l.right = ri ∧
    ∀ H', Adv [] H H' → Q (resV (placeF lg ns th cuts (ls ++ [l]) 0 (ls ++ [l]))) H'
def spWl : Sp := fun vs H Q _ => WlP vs H Q
theorem ok_wrong_line (A : All K mg w) (G : Rul K mg) (Z : Exs K mg) (ZL : Er_BadLogic Z) (Z1 : Er_BadSheet Z) (Z3 : Er_BadClaim Z) (Z4 : Er_BadValue Z) : FnOk P w K mg base (L2N.CX P w) 8 A.wrong_line.f A.wrong_line.fd ["logic", "claim", "paper", "cuts"] spWl := by
  refine okXN A.wrong_line.F sc_wrong_line (fun vs H Q E h => ?_) (fun cdv Ar outer s H vs Q E hr h => ?_)
  · obtain ⟨M, lg, c, p, cuts, ns, th, le, ri, ls, l, rfl, _⟩ := h.ex
    rfl
  · obtain ⟨M, lg, c, p, cuts, ns, th, le, ri, ls, l, rfl, al, hc, hp, hlg, hcm, hsz, hls, el, er, q⟩ := h.ex
    refine ⟨_, (pss_cons (ps_expr (pe_callS (ok_check_any_claim A Z ZL Z1 Z3) (hr.mono (by omega)) rfl A.check_any_claim.m A.check_any_claim.F.kp A.check_any_claim.b (L2N.passAt (L2N.takes_of rfl rfl rfl rfl)) (pa_cons (pv 0) (pa_cons (pv 1) pa_nil))))
  (pss_cons (ps_if (pt_not (pt_val (pe_callB call_isi (by rfl) A.T.isinstance (by decide +kernel) (pa_cons (pv 3) (pa_cons (pe_bltn (v := .ty "bool") (by rfl) A.T.bool (by decide +kernel) rfl) pa_nil)))))
    (pss_one ps_never)
    pss_nil)
  (pss_one (ps_ret (pe_call (ok_wrong_place A G) (hr.mono (by omega)) rfl A.wrong_place.m A.wrong_place.F.kp A.wrong_place.b .nil pass0 (pa_cons (pv 0) (pa_cons (pv 1) (pa_cons (pv 2) (pa_cons (pv 3) pa_nil))))))))), ?_⟩
    walk_at "rd"
    refine ⟨lg, c, rfl, ⟨⟨_, hc.less (by simp), hsz, fun e => by rw [hlg] at e; (cases e), fun _ => ⟨fun i e => by rw [hcm] at e; (cases e), fun z e => by rw [hcm] at e; (cases e), fun _ H1 a1 => ?_⟩⟩⟩⟩
    walk_at "rd"
    refine ⟨_, _, _, _, _, rfl, .ty _, (Is.bl (M := [])).ty A.W, k_bool (.bool cuts), _, rfl, iteN (by simp [kitD, tyN]) ?_⟩
    obtain ⟨z1, z2, _, _⟩ := sz_four hsz
    have hz1 : ns.length ≤ 1000000 := by have := sz_lstZ z1 _ rfl; rwa [List.length_map] at this
    have hz2 : th.length ≤ 1000000 := by have := sz_tupZ z2 _ rfl; rwa [show (nD th).length = th.length from List.length_map ..] at this
    walk_at "rd"
    exact ⟨⟨M, lg, c, p, cuts, ns, th, le, ri, ls, l, rfl, fun b hb z => al b hb (a1.free (by simp) z), hc.adv a1.nil, hp.adv a1.nil, hlg, cm_none hcm, hz1, hz2, hls, el, er, fun H' a => q _ (a1.trans a)⟩⟩
/-! ### is_derivation -/
structure DerP (vs : List V) (H : Hp) (Q : VK) : Prop where
  ex : ∃ (M : List Addr) (lg : Str) (c p : V) (cuts : Bool) (ns : List Nd) (th le ri : List Nat) (ls : List Ln) (l : Ln), vs = [.str lg, c, p, .bl cuts] ∧ (∀ b ∈ M, H b ≠ none) ∧ Is M H (clD ns th le ri) c ∧ Is M H (ppD ns (ls ++ [l])) p ∧ logicOk lg = true ∧
    claimM 5000 (logicB lg) (clD ns th le ri) = none ∧ sz (clD ns th le ri) ≤ 1000000 ∧ (∀ (i : Nat) (k : Ln), (ls ++ [l])[i]? = some k → WfL ns.length i k ∧ LnOk ns k ∧ sz k.data ≤ 1000000) ∧ l.left = le ∧ l.right = ri ∧
    ∀ H', Adv [] H H' → Q (.bl (placeF lg ns th cuts (ls ++ [l]) 0 (ls ++ [l])).isNone) H'
def spDer : Sp := fun vs H Q _ => DerP vs H Q
theorem ok_is_derivation (A : All K mg w) (G : Rul K mg) (Z : Exs K mg) (ZL : Er_BadLogic Z) (Z1 : Er_BadSheet Z) (Z3 : Er_BadClaim Z) (Z4 : Er_BadValue Z) : FnOk P w K mg base (L2N.CX P w) 9 A.is_derivation.f A.is_derivation.fd ["logic", "claim", "paper", "cuts"] spDer := by
  refine okXN A.is_derivation.F sc_is_derivation (fun vs H Q E h => ?_) (fun cdv Ar outer s H vs Q E hr h => ?_)
  · obtain ⟨M, lg, c, p, cuts, ns, th, le, ri, ls, l, rfl, _⟩ := h.ex
    rfl
  · obtain ⟨M, lg, c, p, cuts, ns, th, le, ri, ls, l, rfl, al, hc, hp, hlg, hcm, hsz, hls, el, er, q⟩ := h.ex
    refine ⟨_, (pss_one (ps_ret (pe_cmpR op_isN (pe_callS (ok_wrong_line A G Z ZL Z1 Z3 Z4) (hr.mono (by omega)) rfl A.wrong_line.m A.wrong_line.F.kp A.wrong_line.b (L2N.passAt (L2N.takes_of rfl rfl rfl rfl)) (pa_cons (pv 0) (pa_cons (pv 1) (pa_cons (pv 2) (pa_cons (pv 3) pa_nil))))) pe_non (nomark _)))), ?_⟩
    walk_at "rd"
    refine ⟨⟨M, lg, c, p, cuts, ns, th, le, ri, ls, l, rfl, al, hc, hp, hlg, hcm, hsz, hls, el, er, fun H1 a1 => ?_⟩⟩
    walk_at "rd"
    have q' := q H1 a1
    cases e : placeF lg ns th cuts (ls ++ [l]) 0 (ls ++ [l]) with
    | none => rw [e] at q'; exact q'
    | some i => rw [e] at q'; exact q'
end

set_option Elab.async false
set_option linter.all false
set_option maxRecDepth 100000
set_option maxHeartbeats 4000000
open PySem PySem.Spec PyProof.Rows L2 LL
open C8 (pss_cut)
section
variable [KW]
variable {P : Program} {w : World} {K : PySem.W.Frag} {mg : Str → Option Value} {base : Heap}
/-! ### _law_told -/
theorem hu65 {A : Around} {k : Nat} (hr : Room k A) : A.units + 65 < cLine := by have := hr.un; omega
def isBx : Nd → Bool
  | .box _ => true
  | _ => false
def inB (ns : List Nd) (le : List Nat) : List Nat := (le.filter fun r => isBx (ndA ns r)).map fun r => (ndA ns r).parts.headD 0
def bxL (lg : Str) (ns : List Nd) (le : List Nat) (m : Nat) : List Nat := if lg = "k" then inB ns le else if lg = "s4" then le.filter fun r => isBx (ndA ns r) else inB ns le ++ (le.filter fun r => isBx (ndA ns r)) ++ [m]
def toldF (lg : Str) (ns : List Nd) (l : Ln) : List (List Nat × List Nat) := if l.rule = .box then [(bxL lg ns l.left l.main.toNat, (ndA ns l.main.toNat).parts)] else roomF lg ns l
def sidesL (p : List Nat × List Nat) : PyData := .tuple [.list (nD p.1), .list (nD p.2)]
theorem nVl_snoc (a : List Nat) (r : Nat) : nVl a ++ [V.int (r : Nat)] = nVl (a ++ [r]) := by unfold nVl; rw [List.map_append]; rfl
theorem sidesL_is {M : List Addr} {H : Hp} {t a b : Addr} {xs ys : List Nat} {us vs : List V} (ht : H t = some (.tup [.ref a, .ref b])) (tM : t ∉ M) (ha : H a = some (.lst us)) (eu : us = nVl xs) (aM : a ∉ M) (hb : H b = some (.lst vs)) (ev : vs = nVl ys) (bM : b ∉ M) : Is M H (sidesL (xs, ys)) (.ref t) := by
  subst eu ev
  exact .tup ht tM (.cons (.lst ha aM (nD_is _)) (.cons (.lst hb bM (nD_is _)) .nil))
theorem nd_eqNo (n : Nd) : PyData.eqv n.data (.tuple [.str "no"]) = decide (n = .no) := by
  cases n with
  | no => rw [decide_eq_true rfl]; exact eqv_sh (nd_shaped .no)
  | letter j => rw [decide_eq_false (by simp)]; rfl
  | bin o j k => rw [decide_eq_false (by simp)]; cases o <;> rfl
  | box j => rw [decide_eq_false (by simp)]; rfl
theorem any_no (ns : List Nd) : ((ns.map Nd.data).any fun z => PyData.eqv z (.tuple [.str "no"])) = decide (Nd.no ∈ ns) := by
  induction ns with
  | nil => rfl
  | cons n ns ih =>
    rw [List.map_cons, List.any_cons, ih, nd_eqNo]
    by_cases e : n = .no
    · have hm : Nd.no ∈ n :: ns := by rw [e]; exact List.mem_cons_self
      rw [decide_eq_true e, decide_eq_true hm]
      rfl
    · rw [decide_eq_false e, Bool.false_or]
      exact decide_eq_decide.mpr ⟨fun h => List.mem_cons_of_mem _ h, fun h => (List.mem_cons.mp h).resolve_left fun z => e z.symm⟩
theorem wd_six (n : Nd) : wdN n = "no" ∨ wdN n = "letter" ∨ wdN n = "and" ∨ wdN n = "or" ∨ wdN n = "if" ∨ wdN n = "box" := by
  cases n with
  | no => exact .inl rfl
  | letter i => exact .inr (.inl rfl)
  | bin o j k => cases o <;> first | exact .inr (.inr (.inl rfl)) | exact .inr (.inr (.inr (.inl rfl))) | exact .inr (.inr (.inr (.inr (.inl rfl))))
  | box j => exact .inr (.inr (.inr (.inr (.inr rfl))))
theorem wd_len (n : Nd) (x : Str) (h : x.length ≤ 100) : (wdN n).length + x.length ≤ sizeLine := by
  have : (wdN n).length ≤ 10 := by
    rcases wd_six n with e | e | e | e | e | e <;> rw [e] <;> decide +kernel
  rw [sizeLine_eq]
  omega
theorem wd_left (r : Rl) (n : Nd) (h : leftR r = true) : decide (V.str r.str = V.str (wdN n ++ " left")) = fitsK r n := by
  cases r <;> first | (cases h; done) | skip
  all_goals
    rw [← wd_fits _ _ (by decide +kernel)]
    rcases wd_six n with e | e | e | e | e | e <;> rw [e] <;> decide +kernel
theorem fits_bin {r : Rl} {n : Nd} (h : fitsK r n = true) (hr : (decide (r = .andL) || decide (r = .orL) || decide (r = .ifL) || decide (r = .andR) || decide (r = .orR) || decide (r = .ifR)) = true) : ∃ o j k, n = .bin o j k := by
  cases n with
  | bin o j k => exact ⟨o, j, k, rfl⟩
  | _ => cases r <;> first | (cases h; done) | (cases hr; done)
structure TolP (vs : List V) (H : Hp) (Q : VK) : Prop where
  ex : ∃ (M : List Addr) (lg : Str) (sh tt : Addr) (v : V) (rs : List V) (ns : List Nd) (th : List Nat) (l : Ln), vs = [.str lg, .ref sh, .ref tt, v] ∧ (∀ b ∈ M, H b ≠ none) ∧ H sh = some (.lst rs) ∧ IsDs M H (ns.map Nd.data) rs ∧ Tp M H tt (nVl th) ∧ Is M H l.data v ∧ LnOk ns l ∧ logicOk lg = true ∧ ns.Nodup ∧
    (askB lg ns th l = false → ∀ H', Adv [] H H' → Q .non H') ∧ (askB lg ns th l = true → ∀ x H', Is M H' (.list ((toldF lg ns l).map sidesL)) x → Adv [] H H' → Q x H')
def spTol : Sp := fun vs H Q _ => TolP vs H Q
theorem wd_right (r : Rl) (n : Nd) (h : (leftR r || decide (wdR r = "")) = false) : inV (V.str r.str) [V.str (wdN n ++ " right"), V.str (wdN n)] = fitsK r n := by
  cases r <;> first | (cases h; done) | skip
  all_goals
    rw [← wd_fits _ _ (by decide +kernel)]
    rcases wd_six n with e | e | e | e | e | e <;> rw [e] <;> decide +kernel
theorem snoc2 (a : List Nat) (j k : Nat) : nVl a ++ [V.int (j : Nat), V.int (k : Nat)] = nVl (a ++ [j, k]) := by unfold nVl; rw [List.map_append]; rfl
theorem wd_isBx (n : Nd) : decide (V.str (wdN n) = V.str "box") = isBx n := by
  cases n with
  | bin o j k => cases o <;> rfl
  | _ => rfl
/-- where the right rules begin -/
structure MidT (M : List Addr) (σ : L2.St) (H : Hp) (lg : Str) (ns : List Nd) (l : Ln) : Prop where
  ex : ∃ (sh nd' L R : Addr) (v0 v1 v2 : V) (rs : List V) (m : Nat), σ = [some (.str lg), some (.ref sh), some v0, some v1, some (.ref L), some (.ref R), some (.str l.rule.str), some v2, some (.int (m : Nat)), some (.ref nd'), none, none, none] ∧ l.main = (m : Nat) ∧ m < ns.length ∧
    (leftR l.rule || decide (wdR l.rule = "")) = false ∧ (∀ b ∈ M, H b ≠ none) ∧ H sh = some (.lst rs) ∧ IsDs M H (ns.map Nd.data) rs ∧ H L = some (.lst (nVl l.left)) ∧ L ∉ M ∧ H R = some (.lst (nVl l.right)) ∧ R ∉ M ∧ Tp M H nd' ((ndA ns m).keys.map kV) ∧ LnOk ns l
theorem told3 (A : All K mg w) {cdv : Value} {Ar : Around} {outer : List Env} {s : Shared} {H : Hp} {E : XK} (hr : Room 2 (Ar.deeper (envOfC "_law_told" (defScope s_law_told) s.heap.objs.size A.law_told.f cdv))) :
    ∃ t, PSs (cxOf CX0 P w K mg base ["logic", "sheet", "theory", "line", "left", "right", "rule", "premises", "main", "node", "boxes", "inner", "row"] "_law_told" (defScope s_law_told) A.law_told.f cdv Ar outer s H E).nox ((defBody s_law_told).drop 8) t ∧
      ∀ (Q : VK) (M : List Addr) (lg : Str) (ns : List Nd) (th : List Nat) (l : Ln) (σ' : L2.St) (Hc : Hp), MidT M σ' Hc lg ns l → (askB lg ns th l = false → ∀ H', Adv [] Hc H' → Q .non H') → (askB lg ns th l = true → ∀ x H', Is M H' (.list ((toldF lg ns l).map sidesL)) x → Adv [] Hc H' → Q x H') → t { nx := fun _ H' => Q .non H', rt := Q } σ' Hc := by
  refine ⟨_, (pss_cons (ps_if (PW.pt (pw_or (pt_cmpR (op_notInK K rfl) (pv 8) (pv 5) rfl) (pw_or1 (pt_cmpR (op_notInK K rfl) (pv 6) (pe_tup (pa_cons (pe_op op_add_str (pe_ix ix_tup (pv 9) pe_int (fun _ _ => rfl)) pe_str) (pa_cons (pe_ix ix_tup (pv 9) pe_int (fun _ _ => rfl)) pa_nil))) rfl))))
    (pss_one (ps_ret pe_non))
    pss_nil)
  (pss_cons (ps_if (pt_cmpR op_eq (pv 6) pe_str (nomark _))
    (pss_one (ps_ret (pe_lst (pa_cons (pe_tup (pa_cons (pv 4) (pa_cons (pe_op op_cat (pv 5) (pe_lst (pa_cons (pe_ix ix_tup (pv 9) pe_int (fun _ _ => rfl)) pa_nil))) pa_nil))) (pa_cons (pe_tup (pa_cons (pv 4) (pa_cons (pe_op op_cat (pv 5) (pe_lst (pa_cons (pe_ix ix_tup (pv 9) pe_int (fun _ _ => rfl)) pa_nil))) pa_nil))) pa_nil)))))
    pss_nil)
  (pss_cons (ps_if (pt_cmpR op_eq (pv 6) pe_str (nomark _))
    (pss_one (ps_ret (pe_lst (pa_cons (pe_tup (pa_cons (pv 4) (pa_cons (pe_op op_cat (pv 5) (pe_lst (pa_cons (pe_ix ix_tup (pv 9) pe_int (fun _ _ => rfl)) (pa_cons (pe_ix ix_tup (pv 9) pe_int (fun _ _ => rfl)) pa_nil)))) pa_nil))) pa_nil))))
    pss_nil)
  (pss_cons (ps_if (pt_cmpR op_eq (pv 6) pe_str (nomark _))
    (pss_one (ps_ret (pe_lst (pa_cons (pe_tup (pa_cons (pe_op op_cat (pv 4) (pe_lst (pa_cons (pe_ix ix_tup (pv 9) pe_int (fun _ _ => rfl)) pa_nil))) (pa_cons (pe_ifExp (pt_cmpR op_eq (pv 0) pe_str (nomark _)) (pe_lst (pa_cons (pe_ix ix_tup (pv 9) pe_int (fun _ _ => rfl)) pa_nil)) (pe_op op_cat (pv 5) (pe_lst (pa_cons (pe_ix ix_tup (pv 9) pe_int (fun _ _ => rfl)) pa_nil)))) pa_nil))) pa_nil))))
    pss_nil)
  (pss_cons (ps_if (PW.pt (pw_or (pt_cmpR op_ne (pv 6) pe_str (nomark _)) (pw_or1 (pt_not (pt_val (pe_call (ok_law_is_boxed A) (hr.mono (by omega)) rfl A.law_is_boxed.m A.law_is_boxed.F.kp A.law_is_boxed.b .nil pass0 (pa_cons (pv 0) pa_nil)))))))
    (pss_one (ps_ret pe_non))
    pss_nil)
  (pss_cons (ps_setLc (i := 10) (own := [("row", 12)]) (g := (gName 12)) rfl sc_law_told.nd rfl rfl (sw_true rfl rfl rfl (by decide +kernel)) (pi_list (pv 4)) (blkOk_by (own := [("row", 12)]) (N := ["logic", "sheet", "theory", "line", "left", "right", "rule", "premises", "main", "node", "boxes", "inner", "row"]) (sc := defScope s_law_told) (by decide +kernel)) (fun _ _ _ _ _ => pg_name (i := 12) sc_law_told.nd rfl (Or.inl rfl)) (fun _ _ _ _ _ => pts_one (pt_cmpR op_eq (pe_ix (ix_tupK K rfl) (pe_ix (ix_listK K rfl) (pv 1) (pv 12) (fun _ _ => rfl)) pe_int (fun _ _ => rfl)) pe_str (nomark _))) (fun _ _ _ _ _ => (pv 12)))
  (pss_cons (ps_setLc (i := 11) (own := [("row", 12)]) (g := (gName 12)) rfl sc_law_told.nd rfl rfl (sw_true rfl rfl rfl (by decide +kernel)) (pi_list (pv 10)) (blkOk_by (own := [("row", 12)]) (N := ["logic", "sheet", "theory", "line", "left", "right", "rule", "premises", "main", "node", "boxes", "inner", "row"]) (sc := defScope s_law_told) (by decide +kernel)) (fun _ _ _ _ _ => pg_name (i := 12) sc_law_told.nd rfl (Or.inl rfl)) (fun _ _ _ _ _ => pts_nil) (fun _ _ _ _ _ => (pe_ix (ix_tupK K rfl) (pe_ix (ix_listK K rfl) (pv 1) (pv 12) (fun _ _ => rfl)) pe_int (fun _ _ => rfl))))
  (pss_one (ps_ret (pe_lst (pa_cons (pe_tup (pa_cons (pe_ifExp (pt_cmpR op_eq (pv 0) pe_str (nomark _)) (pv 11) (pe_ifExp (pt_cmpR op_eq (pv 0) pe_str (nomark _)) (pv 10) (pe_op op_cat (pe_op op_cat (pv 11) (pv 10)) (pe_lst (pa_cons (pv 8) pa_nil))))) (pa_cons (pe_lst (pa_cons (pe_ix ix_tup (pv 9) pe_int (fun _ _ => rfl)) pa_nil)) pa_nil))) pa_nil))))))))))), ?_⟩
  rintro Q M lg ns th l σ' Hc ⟨⟨sh, nd', L, R, v0, v1, v2, rs, mn, rfl, em, hmn, rr, al, hsh, hrs, hL, lM, hR, rM, tn, ok⟩⟩ q0 q1
  obtain ⟨le, ri, r, pr, m⟩ := l
  dsimp only at *
  subst em
  have sqn := tn.sq (K := K) A.W
  have z1 : le.length ≤ 100000 := ok.z1
  have z2 : ri.length ≤ 100000 := ok.z2
  walk_at "rd"
  refine ⟨R, _, rfl, .inl (SqL.of hR), rfl, flat_ints _, ?_⟩
  rw [inV_ints, if_pos rfl]
  have e0 : (ri.any fun x => decide ((x : Int) = (mn : Int))) = false → askB lg ns th ⟨le, ri, r, pr, (mn : Nat)⟩ = false := fun e => by
    by_cases hb : r = .box → logicB lg = true
    · rw [ask_right rr hb, e, Bool.and_false]
    · have hb1 : r = .box := Classical.byContradiction fun z => hb fun y => absurd y z
      subst hb1
      exact ask_box (by cases z : logicB lg with | false => rfl | true => exact absurd (fun _ => z) hb)
  refine ⟨_, rfl, iteB (fun e => ?_) (fun e => ?_)⟩
  · walk_at "rd"
    exact q0 (e0 (by simpa using e)) _ (Adv.refl _ _)
  · have e2 : (ri.any fun x => decide ((x : Int) = (mn : Int))) = true := by simpa using e
    clear e0
    walk_at "rd"
    refine rd_ixT sqn (atI_nat (j := 0) (wdN_at _)) ?_
    walk_at "rd"
    refine ⟨_, _, rfl, rfl, wd_len _ _ (by decide +kernel), ?_⟩
    walk_at "rd"
    refine rd_ixT sqn (atI_nat (j := 0) (wdN_at _)) ?_
    walk_at "rd"
    refine ⟨by show 2 ≤ sizeLine; decide, fun t0 nt0 => ?_⟩
    have c : Adv [] Hc (upd Hc t0 (.tup [.str (wdN (ndA ns mn) ++ " right"), .str (wdN (ndA ns mn))])) := Adv.new nt0
    have ht0 : (upd Hc t0 (.tup [.str (wdN (ndA ns mn) ++ " right"), .str (wdN (ndA ns mn))])) t0 = some (.tup [.str (wdN (ndA ns mn) ++ " right"), .str (wdN (ndA ns mn))]) := upd_same
    replace hsh := c.same _ _ hsh
    replace hL := c.same _ _ hL
    replace hR := c.same _ _ hR
    replace sqn := SqT.adv c sqn
    generalize (upd Hc t0 (.tup [.str (wdN (ndA ns mn) ++ " right"), .str (wdN (ndA ns mn))])) = G1 at c ht0 hsh hL hR sqn
    replace hrs := hrs.adv c.nil
    replace tn := tn.adv c.nil
    refine ⟨t0, _, rfl, .inr (SqT.of ht0), rfl, rfl, ?_⟩
    rw [if_pos rfl, wd_right r _ rr]
    refine ⟨_, rfl, iteB (fun e => ?_) (fun e => ?_)⟩
    · have e1 : fitsK r (ndA ns mn) = false := by simpa using e
      walk_at "rd"
      refine q0 ?_ _ c
      by_cases hb : r = .box → logicB lg = true
      · rw [ask_right rr hb, e1, Bool.false_and]
      · have hb1 : r = .box := Classical.byContradiction fun z => hb fun y => absurd y z
        subst hb1
        exact ask_box (by cases z : logicB lg with | false => rfl | true => exact absurd (fun _ => z) hb)
    · have e1 : fitsK r (ndA ns mn) = true := by simpa using e
      clear ht0 nt0
      cases r <;> first | (cases rr; done) | skip
      · -- and right
        have ea : askB lg ns th ⟨le, ri, .andR, pr, (mn : Nat)⟩ = true := by rw [ask_right rr (fun z => nomatch z), e1, e2]; rfl
        obtain ⟨op, j, k, en⟩ := fits_bin (r := .andR) e1 rfl
        have q1' : ∀ (x : V) (H' : Hp), Is M H' (.list [sidesL (le ++ [], ri ++ [j]), sidesL (le ++ [], ri ++ [k])]) x → Adv [] Hc H' → Q x H' := by
          have := q1 ea
          have et : toldF lg ns ⟨le, ri, .andR, pr, (mn : Nat)⟩ = [(le ++ [], ri ++ (ndA ns mn).parts.take 1), (le ++ [], ri ++ (ndA ns mn).parts.drop 1)] := rfl
          rw [et, en] at this
          exact this
        rw [List.append_nil] at q1'
        rw [en] at sqn
        have sqn : SqT K G1 nd' [.str op.str, .int (j : Nat), .int (k : Nat)] := sqn
        clear q0 q1 tn hrs
        walk_at "rd"
        refine ⟨by show 1 ≤ sizeLine; decide, fun D1 nD1 => ?_⟩
        have b : Adv [] G1 (upd G1 D1 (.lst [.int (j : Nat)])) := Adv.new nD1
        have MD1 : D1 ∉ M := fun z => al D1 z (c.free (by simp) nD1)
        have hD1 : (upd G1 D1 (.lst [.int (j : Nat)])) D1 = some (.lst [.int (j : Nat)]) := upd_same
        replace hsh := b.same _ _ hsh
        replace hL := b.same _ _ hL
        replace hR := b.same _ _ hR
        replace sqn := SqT.adv b sqn
        replace c := c.trans b
        generalize (upd G1 D1 (.lst [.int (j : Nat)])) = G2 at b hD1 hsh hL hR c sqn
        clear b
        refine rd_cat hR hD1 (by rw [nVl_len, sizeLine_eq]; show _ + 1 ≤ _; omega) fun D2 nD2 => ?_
        have b : Adv [] G2 (upd G2 D2 (.lst (nVl ri ++ [.int (j : Nat)]))) := Adv.new nD2
        have MD2 : D2 ∉ M := fun z => al D2 z (c.free (by simp) nD2)
        have hD2 : (upd G2 D2 (.lst (nVl ri ++ [.int (j : Nat)]))) D2 = some (.lst (nVl ri ++ [.int (j : Nat)])) := upd_same
        replace hsh := b.same _ _ hsh
        replace hL := b.same _ _ hL
        replace hR := b.same _ _ hR
        replace hD1 := b.same _ _ hD1
        replace sqn := SqT.adv b sqn
        replace c := c.trans b
        generalize (upd G2 D2 (.lst (nVl ri ++ [.int (j : Nat)]))) = G3 at b hD2 hsh hL hR hD1 c sqn
        clear b
        walk_at "rd"
        refine ⟨by show 2 ≤ sizeLine; decide, fun t nt => ?_⟩
        have b : Adv [] G3 (upd G3 t (.tup [.ref L, .ref D2])) := Adv.new nt
        have Mt : t ∉ M := fun z => al t z (c.free (by simp) nt)
        have ht : (upd G3 t (.tup [.ref L, .ref D2])) t = some (.tup [.ref L, .ref D2]) := upd_same
        replace hsh := b.same _ _ hsh
        replace hL := b.same _ _ hL
        replace hR := b.same _ _ hR
        replace hD1 := b.same _ _ hD1
        replace hD2 := b.same _ _ hD2
        replace sqn := SqT.adv b sqn
        replace c := c.trans b
        generalize (upd G3 t (.tup [.ref L, .ref D2])) = G4 at b ht hsh hL hR hD1 hD2 c sqn
        clear b
        walk_at "rd"
        refine ⟨by show 1 ≤ sizeLine; decide, fun D3 nD3 => ?_⟩
        have b : Adv [] G4 (upd G4 D3 (.lst [.int (k : Nat)])) := Adv.new nD3
        have MD3 : D3 ∉ M := fun z => al D3 z (c.free (by simp) nD3)
        have hD3 : (upd G4 D3 (.lst [.int (k : Nat)])) D3 = some (.lst [.int (k : Nat)]) := upd_same
        replace hsh := b.same _ _ hsh
        replace hL := b.same _ _ hL
        replace hR := b.same _ _ hR
        replace hD1 := b.same _ _ hD1
        replace hD2 := b.same _ _ hD2
        replace ht := b.same _ _ ht
        replace sqn := SqT.adv b sqn
        replace c := c.trans b
        generalize (upd G4 D3 (.lst [.int (k : Nat)])) = G5 at b hD3 hsh hL hR hD1 hD2 ht c sqn
        clear b
        refine rd_cat hR hD3 (by rw [nVl_len, sizeLine_eq]; show _ + 1 ≤ _; omega) fun D4 nD4 => ?_
        have b : Adv [] G5 (upd G5 D4 (.lst (nVl ri ++ [.int (k : Nat)]))) := Adv.new nD4
        have MD4 : D4 ∉ M := fun z => al D4 z (c.free (by simp) nD4)
        have hD4 : (upd G5 D4 (.lst (nVl ri ++ [.int (k : Nat)]))) D4 = some (.lst (nVl ri ++ [.int (k : Nat)])) := upd_same
        replace hsh := b.same _ _ hsh
        replace hL := b.same _ _ hL
        replace hR := b.same _ _ hR
        replace hD1 := b.same _ _ hD1
        replace hD2 := b.same _ _ hD2
        replace ht := b.same _ _ ht
        replace hD3 := b.same _ _ hD3
        replace sqn := SqT.adv b sqn
        replace c := c.trans b
        generalize (upd G5 D4 (.lst (nVl ri ++ [.int (k : Nat)]))) = G6 at b hD4 hsh hL hR hD1 hD2 ht hD3 c sqn
        clear b
        walk_at "rd"
        refine ⟨by show 2 ≤ sizeLine; decide, fun u nu => ?_⟩
        have b : Adv [] G6 (upd G6 u (.tup [.ref L, .ref D4])) := Adv.new nu
        have Mu : u ∉ M := fun z => al u z (c.free (by simp) nu)
        have hu : (upd G6 u (.tup [.ref L, .ref D4])) u = some (.tup [.ref L, .ref D4]) := upd_same
        replace hsh := b.same _ _ hsh
        replace hL := b.same _ _ hL
        replace hR := b.same _ _ hR
        replace hD1 := b.same _ _ hD1
        replace hD2 := b.same _ _ hD2
        replace ht := b.same _ _ ht
        replace hD3 := b.same _ _ hD3
        replace hD4 := b.same _ _ hD4
        replace sqn := SqT.adv b sqn
        replace c := c.trans b
        generalize (upd G6 u (.tup [.ref L, .ref D4])) = G7 at b hu hsh hL hR hD1 hD2 ht hD3 hD4 c sqn
        clear b
        walk_at "rd"
        refine ⟨by show 2 ≤ sizeLine; decide, fun D5 nD5 => ?_⟩
        have b : Adv [] G7 (upd G7 D5 (.lst [.ref t, .ref u])) := Adv.new nD5
        have MD5 : D5 ∉ M := fun z => al D5 z (c.free (by simp) nD5)
        have hD5 : (upd G7 D5 (.lst [.ref t, .ref u])) D5 = some (.lst [.ref t, .ref u]) := upd_same
        replace hsh := b.same _ _ hsh
        replace hL := b.same _ _ hL
        replace hR := b.same _ _ hR
        replace hD1 := b.same _ _ hD1
        replace hD2 := b.same _ _ hD2
        replace ht := b.same _ _ ht
        replace hD3 := b.same _ _ hD3
        replace hD4 := b.same _ _ hD4
        replace hu := b.same _ _ hu
        replace sqn := SqT.adv b sqn
        replace c := c.trans b
        generalize (upd G7 D5 (.lst [.ref t, .ref u])) = G8 at b hD5 hsh hL hR hD1 hD2 ht hD3 hD4 hu c sqn
        clear b
        exact q1' _ _ (.lst hD5 MD5 (.cons (sidesL_is ht Mt hL rfl lM hD2 (nVl_snoc _ _) MD2) (.cons (sidesL_is hu Mu hL rfl lM hD4 (nVl_snoc _ _) MD4) .nil))) c
      · -- or right
        have ea : askB lg ns th ⟨le, ri, .orR, pr, (mn : Nat)⟩ = true := by rw [ask_right rr (fun z => nomatch z), e1, e2]; rfl
        obtain ⟨op, j, k, en⟩ := fits_bin (r := .orR) e1 rfl
        have q1' : ∀ (x : V) (H' : Hp), Is M H' (.list [sidesL (le ++ [], ri ++ [j, k])]) x → Adv [] Hc H' → Q x H' := by
          have := q1 ea
          have et : toldF lg ns ⟨le, ri, .orR, pr, (mn : Nat)⟩ = [(le ++ [], ri ++ (ndA ns mn).parts)] := rfl
          rw [et, en] at this
          exact this
        rw [List.append_nil] at q1'
        rw [en] at sqn
        have sqn : SqT K G1 nd' [.str op.str, .int (j : Nat), .int (k : Nat)] := sqn
        clear q0 q1 tn hrs
        walk_at "rd"
        refine ⟨by show 2 ≤ sizeLine; decide, fun D1 nD1 => ?_⟩
        have b : Adv [] G1 (upd G1 D1 (.lst [.int (j : Nat), .int (k : Nat)])) := Adv.new nD1
        have MD1 : D1 ∉ M := fun z => al D1 z (c.free (by simp) nD1)
        have hD1 : (upd G1 D1 (.lst [.int (j : Nat), .int (k : Nat)])) D1 = some (.lst [.int (j : Nat), .int (k : Nat)]) := upd_same
        replace hsh := b.same _ _ hsh
        replace hL := b.same _ _ hL
        replace hR := b.same _ _ hR
        replace sqn := SqT.adv b sqn
        replace c := c.trans b
        generalize (upd G1 D1 (.lst [.int (j : Nat), .int (k : Nat)])) = G2 at b hD1 hsh hL hR c sqn
        clear b
        refine rd_cat hR hD1 (by rw [nVl_len, sizeLine_eq]; show _ + 2 ≤ _; omega) fun D2 nD2 => ?_
        have b : Adv [] G2 (upd G2 D2 (.lst (nVl ri ++ [.int (j : Nat), .int (k : Nat)]))) := Adv.new nD2
        have MD2 : D2 ∉ M := fun z => al D2 z (c.free (by simp) nD2)
        have hD2 : (upd G2 D2 (.lst (nVl ri ++ [.int (j : Nat), .int (k : Nat)]))) D2 = some (.lst (nVl ri ++ [.int (j : Nat), .int (k : Nat)])) := upd_same
        replace hsh := b.same _ _ hsh
        replace hL := b.same _ _ hL
        replace hR := b.same _ _ hR
        replace hD1 := b.same _ _ hD1
        replace sqn := SqT.adv b sqn
        replace c := c.trans b
        generalize (upd G2 D2 (.lst (nVl ri ++ [.int (j : Nat), .int (k : Nat)]))) = G3 at b hD2 hsh hL hR hD1 c sqn
        clear b
        walk_at "rd"
        refine ⟨by show 2 ≤ sizeLine; decide, fun t nt => ?_⟩
        have b : Adv [] G3 (upd G3 t (.tup [.ref L, .ref D2])) := Adv.new nt
        have Mt : t ∉ M := fun z => al t z (c.free (by simp) nt)
        have ht : (upd G3 t (.tup [.ref L, .ref D2])) t = some (.tup [.ref L, .ref D2]) := upd_same
        replace hsh := b.same _ _ hsh
        replace hL := b.same _ _ hL
        replace hR := b.same _ _ hR
        replace hD1 := b.same _ _ hD1
        replace hD2 := b.same _ _ hD2
        replace sqn := SqT.adv b sqn
        replace c := c.trans b
        generalize (upd G3 t (.tup [.ref L, .ref D2])) = G4 at b ht hsh hL hR hD1 hD2 c sqn
        clear b
        walk_at "rd"
        refine ⟨by show 1 ≤ sizeLine; decide, fun D5 nD5 => ?_⟩
        have b : Adv [] G4 (upd G4 D5 (.lst [.ref t])) := Adv.new nD5
        have MD5 : D5 ∉ M := fun z => al D5 z (c.free (by simp) nD5)
        have hD5 : (upd G4 D5 (.lst [.ref t])) D5 = some (.lst [.ref t]) := upd_same
        replace hsh := b.same _ _ hsh
        replace hL := b.same _ _ hL
        replace hR := b.same _ _ hR
        replace hD1 := b.same _ _ hD1
        replace hD2 := b.same _ _ hD2
        replace ht := b.same _ _ ht
        replace sqn := SqT.adv b sqn
        replace c := c.trans b
        generalize (upd G4 D5 (.lst [.ref t])) = G5 at b hD5 hsh hL hR hD1 hD2 ht c sqn
        clear b
        exact q1' _ _ (.lst hD5 MD5 (.cons (sidesL_is ht Mt hL rfl lM hD2 (snoc2 _ _ _) MD2) .nil)) c
      · -- if right
        have ea : askB lg ns th ⟨le, ri, .ifR, pr, (mn : Nat)⟩ = true := by rw [ask_right rr (fun z => nomatch z), e1, e2]; rfl
        obtain ⟨op, j, k, en⟩ := fits_bin (r := .ifR) e1 rfl
        have q1' : ∀ (x : V) (H' : Hp), Is M H' (.list [sidesL (le ++ [j], (if lg = "intuit" then [] else ri) ++ [k])]) x → Adv [] Hc H' → Q x H' := by
          have := q1 ea
          have et : toldF lg ns ⟨le, ri, .ifR, pr, (mn : Nat)⟩ = [(le ++ (ndA ns mn).parts.take 1, (if Rl.ifR = Rl.ifR ∧ lg = "intuit" then [] else ri) ++ (ndA ns mn).parts.drop 1)] := rfl
          rw [et, en] at this
          rw [show (if Rl.ifR = Rl.ifR ∧ lg = "intuit" then ([] : List Nat) else ri) = (if lg = "intuit" then [] else ri) from by simp] at this
          exact this
        rw [en] at sqn
        have sqn : SqT K G1 nd' [.str op.str, .int (j : Nat), .int (k : Nat)] := sqn
        clear q0 q1 tn hrs
        walk_at "rd"
        refine ⟨by show 1 ≤ sizeLine; decide, fun D1 nD1 => ?_⟩
        have b : Adv [] G1 (upd G1 D1 (.lst [.int (j : Nat)])) := Adv.new nD1
        have MD1 : D1 ∉ M := fun z => al D1 z (c.free (by simp) nD1)
        have hD1 : (upd G1 D1 (.lst [.int (j : Nat)])) D1 = some (.lst [.int (j : Nat)]) := upd_same
        replace hsh := b.same _ _ hsh
        replace hL := b.same _ _ hL
        replace hR := b.same _ _ hR
        replace sqn := SqT.adv b sqn
        replace c := c.trans b
        generalize (upd G1 D1 (.lst [.int (j : Nat)])) = G2 at b hD1 hsh hL hR c sqn
        clear b
        refine rd_cat hL hD1 (by rw [nVl_len, sizeLine_eq]; show _ + 1 ≤ _; omega) fun D2 nD2 => ?_
        have b : Adv [] G2 (upd G2 D2 (.lst (nVl le ++ [.int (j : Nat)]))) := Adv.new nD2
        have MD2 : D2 ∉ M := fun z => al D2 z (c.free (by simp) nD2)
        have hD2 : (upd G2 D2 (.lst (nVl le ++ [.int (j : Nat)]))) D2 = some (.lst (nVl le ++ [.int (j : Nat)])) := upd_same
        replace hsh := b.same _ _ hsh
        replace hL := b.same _ _ hL
        replace hR := b.same _ _ hR
        replace hD1 := b.same _ _ hD1
        replace sqn := SqT.adv b sqn
        replace c := c.trans b
        generalize (upd G2 D2 (.lst (nVl le ++ [.int (j : Nat)]))) = G3 at b hD2 hsh hL hR hD1 c sqn
        clear b
        walk_at "rd"
        refine iteB (fun ei => ?_) (fun ei => ?_)
        · have el : lg = "intuit" := by simpa using ei
          rw [if_pos el] at q1'
          walk_at "rd"
          refine ⟨by show 1 ≤ sizeLine; decide, fun D4 nD4 => ?_⟩
          have b : Adv [] G3 (upd G3 D4 (.lst [.int (k : Nat)])) := Adv.new nD4
          have MD4 : D4 ∉ M := fun z => al D4 z (c.free (by simp) nD4)
          have hD4 : (upd G3 D4 (.lst [.int (k : Nat)])) D4 = some (.lst [.int (k : Nat)]) := upd_same
          replace hsh := b.same _ _ hsh
          replace hL := b.same _ _ hL
          replace hR := b.same _ _ hR
          replace hD1 := b.same _ _ hD1
          replace hD2 := b.same _ _ hD2
          replace sqn := SqT.adv b sqn
          replace c := c.trans b
          generalize (upd G3 D4 (.lst [.int (k : Nat)])) = G4 at b hD4 hsh hL hR hD1 hD2 c sqn
          clear b
          walk_at "rd"
          refine ⟨by show 2 ≤ sizeLine; decide, fun t nt => ?_⟩
          have b : Adv [] G4 (upd G4 t (.tup [.ref D2, .ref D4])) := Adv.new nt
          have Mt : t ∉ M := fun z => al t z (c.free (by simp) nt)
          have ht : (upd G4 t (.tup [.ref D2, .ref D4])) t = some (.tup [.ref D2, .ref D4]) := upd_same
          replace hsh := b.same _ _ hsh
          replace hL := b.same _ _ hL
          replace hR := b.same _ _ hR
          replace hD1 := b.same _ _ hD1
          replace hD2 := b.same _ _ hD2
          replace hD4 := b.same _ _ hD4
          replace sqn := SqT.adv b sqn
          replace c := c.trans b
          generalize (upd G4 t (.tup [.ref D2, .ref D4])) = G5 at b ht hsh hL hR hD1 hD2 hD4 c sqn
          clear b
          walk_at "rd"
          refine ⟨by show 1 ≤ sizeLine; decide, fun D5 nD5 => ?_⟩
          have b : Adv [] G5 (upd G5 D5 (.lst [.ref t])) := Adv.new nD5
          have MD5 : D5 ∉ M := fun z => al D5 z (c.free (by simp) nD5)
          have hD5 : (upd G5 D5 (.lst [.ref t])) D5 = some (.lst [.ref t]) := upd_same
          replace hsh := b.same _ _ hsh
          replace hL := b.same _ _ hL
          replace hR := b.same _ _ hR
          replace hD1 := b.same _ _ hD1
          replace hD2 := b.same _ _ hD2
          replace hD4 := b.same _ _ hD4
          replace ht := b.same _ _ ht
          replace sqn := SqT.adv b sqn
          replace c := c.trans b
          generalize (upd G5 D5 (.lst [.ref t])) = G6 at b hD5 hsh hL hR hD1 hD2 hD4 ht c sqn
          clear b
          exact q1' _ _ (.lst hD5 MD5 (.cons (sidesL_is ht Mt hD2 (nVl_snoc _ _) MD2 hD4 rfl MD4) .nil)) c
        · have el : ¬ lg = "intuit" := by simpa using ei
          rw [if_neg el] at q1'
          walk_at "rd"
          refine ⟨by show 1 ≤ sizeLine; decide, fun D3 nD3 => ?_⟩
          have b : Adv [] G3 (upd G3 D3 (.lst [.int (k : Nat)])) := Adv.new nD3
          have MD3 : D3 ∉ M := fun z => al D3 z (c.free (by simp) nD3)
          have hD3 : (upd G3 D3 (.lst [.int (k : Nat)])) D3 = some (.lst [.int (k : Nat)]) := upd_same
          replace hsh := b.same _ _ hsh
          replace hL := b.same _ _ hL
          replace hR := b.same _ _ hR
          replace hD1 := b.same _ _ hD1
          replace hD2 := b.same _ _ hD2
          replace sqn := SqT.adv b sqn
          replace c := c.trans b
          generalize (upd G3 D3 (.lst [.int (k : Nat)])) = G4 at b hD3 hsh hL hR hD1 hD2 c sqn
          clear b
          refine rd_cat hR hD3 (by rw [nVl_len, sizeLine_eq]; show _ + 1 ≤ _; omega) fun D4 nD4 => ?_
          have b : Adv [] G4 (upd G4 D4 (.lst (nVl ri ++ [.int (k : Nat)]))) := Adv.new nD4
          have MD4 : D4 ∉ M := fun z => al D4 z (c.free (by simp) nD4)
          have hD4 : (upd G4 D4 (.lst (nVl ri ++ [.int (k : Nat)]))) D4 = some (.lst (nVl ri ++ [.int (k : Nat)])) := upd_same
          replace hsh := b.same _ _ hsh
          replace hL := b.same _ _ hL
          replace hR := b.same _ _ hR
          replace hD1 := b.same _ _ hD1
          replace hD2 := b.same _ _ hD2
          replace hD3 := b.same _ _ hD3
          replace sqn := SqT.adv b sqn
          replace c := c.trans b
          generalize (upd G4 D4 (.lst (nVl ri ++ [.int (k : Nat)]))) = G5 at b hD4 hsh hL hR hD1 hD2 hD3 c sqn
          clear b
          walk_at "rd"
          refine ⟨by show 2 ≤ sizeLine; decide, fun t nt => ?_⟩
          have b : Adv [] G5 (upd G5 t (.tup [.ref D2, .ref D4])) := Adv.new nt
          have Mt : t ∉ M := fun z => al t z (c.free (by simp) nt)
          have ht : (upd G5 t (.tup [.ref D2, .ref D4])) t = some (.tup [.ref D2, .ref D4]) := upd_same
          replace hsh := b.same _ _ hsh
          replace hL := b.same _ _ hL
          replace hR := b.same _ _ hR
          replace hD1 := b.same _ _ hD1
          replace hD2 := b.same _ _ hD2
          replace hD3 := b.same _ _ hD3
          replace hD4 := b.same _ _ hD4
          replace sqn := SqT.adv b sqn
          replace c := c.trans b
          generalize (upd G5 t (.tup [.ref D2, .ref D4])) = G6 at b ht hsh hL hR hD1 hD2 hD3 hD4 c sqn
          clear b
          walk_at "rd"
          refine ⟨by show 1 ≤ sizeLine; decide, fun D5 nD5 => ?_⟩
          have b : Adv [] G6 (upd G6 D5 (.lst [.ref t])) := Adv.new nD5
          have MD5 : D5 ∉ M := fun z => al D5 z (c.free (by simp) nD5)
          have hD5 : (upd G6 D5 (.lst [.ref t])) D5 = some (.lst [.ref t]) := upd_same
          replace hsh := b.same _ _ hsh
          replace hL := b.same _ _ hL
          replace hR := b.same _ _ hR
          replace hD1 := b.same _ _ hD1
          replace hD2 := b.same _ _ hD2
          replace hD3 := b.same _ _ hD3
          replace hD4 := b.same _ _ hD4
          replace ht := b.same _ _ ht
          replace sqn := SqT.adv b sqn
          replace c := c.trans b
          generalize (upd G6 D5 (.lst [.ref t])) = G7 at b hD5 hsh hL hR hD1 hD2 hD3 hD4 ht c sqn
          clear b
          exact q1' _ _ (.lst hD5 MD5 (.cons (sidesL_is ht Mt hD2 (nVl_snoc _ _) MD2 hD4 (nVl_snoc _ _) MD4) .nil)) c
      · -- box
        obtain ⟨j, en⟩ : ∃ j, ndA ns mn = .box j := by
          cases k : ndA ns mn with
          | box j => exact ⟨j, rfl⟩
          | _ => rw [k] at e1; cases e1
        rw [en] at sqn
        have sqn : SqT K G1 nd' [.str "box", .int (j : Nat)] := sqn
        have hrs' := hrs
        clear hrs tn
        walk_at "rd"
        refine ⟨lg, rfl, fun G2 b => ?_⟩
        replace c := c.trans b
        replace hsh := b.same _ _ hsh
        replace hL := b.same _ _ hL
        replace hR := b.same _ _ hR
        replace sqn := SqT.adv b sqn
        replace hrs' := hrs'.adv b.nil
        clear b
        refine ⟨_, rfl, iteB (fun eb => ?_) (fun eb => ?_)⟩
        · have eb' : logicB lg = false := by simpa using eb
          exact q0 (ask_box eb') _ c
        · have eb' : logicB lg = true := by simpa using eb
          have ea : askB lg ns th ⟨le, ri, .box, pr, (mn : Nat)⟩ = true := by rw [ask_right rr (fun _ => eb'), e1, e2]; rfl
          have q1' : ∀ (x : V) (H' : Hp), Is M H' (.list [sidesL (bxL lg ns le mn, [j])]) x → Adv [] Hc H' → Q x H' := by
            have := q1 ea
            have et : toldF lg ns ⟨le, ri, .box, pr, (mn : Nat)⟩ = [(bxL lg ns le mn, (ndA ns mn).parts)] := rfl
            rw [et, en] at this
            exact this
          clear q0 q1
          walk_at "rd"
          have hle : ∀ r ∈ le, r < ns.length := ok.left
          refine ⟨_, rfl, L, rfl, ⟨_, SqL.of hL⟩, fun D nD => ?_⟩
          refine lc_filtL (T := le) (fun k => V.int (k : Nat)) (fun k => isBx (ndA ns k)) nD hL (by omega) ?_ ?_
          · intro r H' acc R' R0 hk aH hD r1 r0
            obtain ⟨nd, hnd, tn⟩ := nd_at (hrs'.adv aH.nil) (hle r hk)
            have sqr := tn.sq (K := K) A.W
            have hsh' := aH.same _ _ hsh
            clear sqn hL hR hsh hrs'
            refine ⟨rfl, ?_⟩
            walk_at "rd"
            refine rd_ixT sqr (atI_nat (j := 0) (wdN_at _)) ?_
            walk_at "rd"
            rw [wd_isBx]
            refine iteB (fun e => ?_) (fun e => ?_)
            · exact ⟨_, rfl, r1 e H' hD aH⟩
            · exact r0 e H' hD aH
          · intro G3 b hD
            have MD : D ∉ M := fun z => al D z (c.free (by simp) nD)
            have hD : G3 D = some (.lst (nVl (le.filter fun k => isBx (ndA ns k)))) := hD
            replace c := c.trans b
            replace hsh := b.same _ _ hsh
            replace hL := b.same _ _ hL
            replace hR := b.same _ _ hR
            replace sqn := SqT.adv b sqn
            replace hrs' := hrs'.adv b.nil
            clear b nD
            walk_at "rd"
            have hfl : (le.filter fun k => isBx (ndA ns k)).length ≤ le.length := List.length_filter_le _ _
            refine ⟨_, rfl, D, rfl, ⟨_, SqL.of hD⟩, fun D2 nD2 => ?_⟩
            refine lc_natL (T := le.filter fun k => isBx (ndA ns k)) (fun k => V.int ((ndA ns k).parts.headD 0 : Nat)) nD2 hD (by omega) ?_ ?_
            · intro r H' acc R' hk aH hD2 r1
              obtain ⟨hk1, hk2⟩ := List.mem_filter.mp hk
              obtain ⟨i, ei⟩ : ∃ i, ndA ns r = .box i := by
                cases k : ndA ns r with
                | box i => exact ⟨i, rfl⟩
                | _ => rw [k] at hk2; cases hk2
              obtain ⟨nd, hnd, tn⟩ := nd_at (hrs'.adv aH.nil) (hle r hk1)
              have sqr := tn.sq (K := K) A.W
              rw [ei] at sqr
              have hsh' := aH.same _ _ hsh
              clear sqn hL hR hsh hrs'
              refine ⟨rfl, ?_⟩
              walk_at "rd"
              have r2 := r1 H' hD2 aH
              rw [ei] at r2
              exact r2
            · intro G4 b hD2
              have MD2 : D2 ∉ M := fun z => al D2 z (c.free (by simp) nD2)
              have hD2 : G4 D2 = some (.lst (nVl (inB ns le))) := by
                rw [hD2]
                unfold inB nVl
                rw [List.map_map]
                rfl
              replace c := c.trans b
              replace hsh := b.same _ _ hsh
              replace hL := b.same _ _ hL
              replace hR := b.same _ _ hR
              replace sqn := SqT.adv b sqn
              replace hD := b.same _ _ hD
              have hil : (inB ns le).length ≤ le.length := by unfold inB; rw [List.length_map]; exact hfl
              clear b nD2 hrs'
              walk_at "rd"
              refine iteB (fun ek => ?_) (fun ek => ?_)
              · have el : lg = "k" := by simpa using ek
                have eB : bxL lg ns le mn = inB ns le := by unfold bxL; rw [if_pos el]
                rw [eB] at q1'
                walk_at "rd"
                refine ⟨by show 1 ≤ sizeLine; decide, fun D7 nD7 => ?_⟩
                have b : Adv [] G4 (upd G4 D7 (.lst [.int (j : Nat)])) := Adv.new nD7
                have MD7 : D7 ∉ M := fun z => al D7 z (c.free (by simp) nD7)
                have hD7 : (upd G4 D7 (.lst [.int (j : Nat)])) D7 = some (.lst [.int (j : Nat)]) := upd_same
                replace hD := b.same _ _ hD
                replace hD2 := b.same _ _ hD2
                replace sqn := SqT.adv b sqn
                replace c := c.trans b
                generalize (upd G4 D7 (.lst [.int (j : Nat)])) = G5 at b hD7 hD hD2 c sqn
                clear b
                walk_at "rd"
                refine ⟨by show 2 ≤ sizeLine; decide, fun t nt => ?_⟩
                have b : Adv [] G5 (upd G5 t (.tup [.ref D2, .ref D7])) := Adv.new nt
                have Mt : t ∉ M := fun z => al t z (c.free (by simp) nt)
                have ht : (upd G5 t (.tup [.ref D2, .ref D7])) t = some (.tup [.ref D2, .ref D7]) := upd_same
                replace hD := b.same _ _ hD
                replace hD2 := b.same _ _ hD2
                replace hD7 := b.same _ _ hD7
                replace sqn := SqT.adv b sqn
                replace c := c.trans b
                generalize (upd G5 t (.tup [.ref D2, .ref D7])) = G6 at b ht hD hD2 hD7 c sqn
                clear b
                walk_at "rd"
                refine ⟨by show 1 ≤ sizeLine; decide, fun D8 nD8 => ?_⟩
                have b : Adv [] G6 (upd G6 D8 (.lst [.ref t])) := Adv.new nD8
                have MD8 : D8 ∉ M := fun z => al D8 z (c.free (by simp) nD8)
                have hD8 : (upd G6 D8 (.lst [.ref t])) D8 = some (.lst [.ref t]) := upd_same
                replace hD := b.same _ _ hD
                replace hD2 := b.same _ _ hD2
                replace hD7 := b.same _ _ hD7
                replace ht := b.same _ _ ht
                replace sqn := SqT.adv b sqn
                replace c := c.trans b
                generalize (upd G6 D8 (.lst [.ref t])) = G7 at b hD8 hD hD2 hD7 ht c sqn
                clear b
                exact q1' _ _ (.lst hD8 MD8 (.cons (sidesL_is ht Mt hD2 rfl MD2 hD7 rfl MD7) .nil)) c
              · have el : ¬ lg = "k" := by simpa using ek
                walk_at "rd"
                refine iteB (fun es => ?_) (fun es => ?_)
                · have el2 : lg = "s4" := by simpa using es
                  have eB : bxL lg ns le mn = le.filter fun k => isBx (ndA ns k) := by unfold bxL; rw [if_neg el, if_pos el2]
                  rw [eB] at q1'
                  walk_at "rd"
                  refine ⟨by show 1 ≤ sizeLine; decide, fun D7 nD7 => ?_⟩
                  have b : Adv [] G4 (upd G4 D7 (.lst [.int (j : Nat)])) := Adv.new nD7
                  have MD7 : D7 ∉ M := fun z => al D7 z (c.free (by simp) nD7)
                  have hD7 : (upd G4 D7 (.lst [.int (j : Nat)])) D7 = some (.lst [.int (j : Nat)]) := upd_same
                  replace hD := b.same _ _ hD
                  replace hD2 := b.same _ _ hD2
                  replace sqn := SqT.adv b sqn
                  replace c := c.trans b
                  generalize (upd G4 D7 (.lst [.int (j : Nat)])) = G5 at b hD7 hD hD2 c sqn
                  clear b
                  walk_at "rd"
                  refine ⟨by show 2 ≤ sizeLine; decide, fun t nt => ?_⟩
                  have b : Adv [] G5 (upd G5 t (.tup [.ref D, .ref D7])) := Adv.new nt
                  have Mt : t ∉ M := fun z => al t z (c.free (by simp) nt)
                  have ht : (upd G5 t (.tup [.ref D, .ref D7])) t = some (.tup [.ref D, .ref D7]) := upd_same
                  replace hD := b.same _ _ hD
                  replace hD2 := b.same _ _ hD2
                  replace hD7 := b.same _ _ hD7
                  replace sqn := SqT.adv b sqn
                  replace c := c.trans b
                  generalize (upd G5 t (.tup [.ref D, .ref D7])) = G6 at b ht hD hD2 hD7 c sqn
                  clear b
                  walk_at "rd"
                  refine ⟨by show 1 ≤ sizeLine; decide, fun D8 nD8 => ?_⟩
                  have b : Adv [] G6 (upd G6 D8 (.lst [.ref t])) := Adv.new nD8
                  have MD8 : D8 ∉ M := fun z => al D8 z (c.free (by simp) nD8)
                  have hD8 : (upd G6 D8 (.lst [.ref t])) D8 = some (.lst [.ref t]) := upd_same
                  replace hD := b.same _ _ hD
                  replace hD2 := b.same _ _ hD2
                  replace hD7 := b.same _ _ hD7
                  replace ht := b.same _ _ ht
                  replace sqn := SqT.adv b sqn
                  replace c := c.trans b
                  generalize (upd G6 D8 (.lst [.ref t])) = G7 at b hD8 hD hD2 hD7 ht c sqn
                  clear b
                  exact q1' _ _ (.lst hD8 MD8 (.cons (sidesL_is ht Mt hD rfl MD hD7 rfl MD7) .nil)) c
                · have el2 : ¬ lg = "s4" := by simpa using es
                  have eB : bxL lg ns le mn = inB ns le ++ (le.filter fun k => isBx (ndA ns k)) ++ [mn] := by unfold bxL; rw [if_neg el, if_neg el2]
                  rw [eB] at q1'
                  walk_at "rd"
                  refine rd_cat hD2 hD (by rw [nVl_len, nVl_len, sizeLine_eq]; omega) fun D4 nD4 => ?_
                  have b : Adv [] G4 (upd G4 D4 (.lst (nVl (inB ns le) ++ nVl (le.filter fun k => isBx (ndA ns k))))) := Adv.new nD4
                  have MD4 : D4 ∉ M := fun z => al D4 z (c.free (by simp) nD4)
                  have hD4 : (upd G4 D4 (.lst (nVl (inB ns le) ++ nVl (le.filter fun k => isBx (ndA ns k))))) D4 = some (.lst (nVl (inB ns le) ++ nVl (le.filter fun k => isBx (ndA ns k)))) := upd_same
                  replace hD := b.same _ _ hD
                  replace hD2 := b.same _ _ hD2
                  replace sqn := SqT.adv b sqn
                  replace c := c.trans b
                  generalize (upd G4 D4 (.lst (nVl (inB ns le) ++ nVl (le.filter fun k => isBx (ndA ns k))))) = G5 at b hD4 hD hD2 c sqn
                  clear b
                  walk_at "rd"
                  refine ⟨by show 1 ≤ sizeLine; decide, fun D5 nD5 => ?_⟩
                  have b : Adv [] G5 (upd G5 D5 (.lst [.int (mn : Nat)])) := Adv.new nD5
                  have MD5 : D5 ∉ M := fun z => al D5 z (c.free (by simp) nD5)
                  have hD5 : (upd G5 D5 (.lst [.int (mn : Nat)])) D5 = some (.lst [.int (mn : Nat)]) := upd_same
                  replace hD := b.same _ _ hD
                  replace hD2 := b.same _ _ hD2
                  replace hD4 := b.same _ _ hD4
                  replace sqn := SqT.adv b sqn
                  replace c := c.trans b
                  generalize (upd G5 D5 (.lst [.int (mn : Nat)])) = G6 at b hD5 hD hD2 hD4 c sqn
                  clear b
                  refine rd_cat hD4 hD5 (by rw [List.length_append, nVl_len, nVl_len, sizeLine_eq]; show _ + 1 ≤ _; omega) fun D6 nD6 => ?_
                  have b : Adv [] G6 (upd G6 D6 (.lst ((nVl (inB ns le) ++ nVl (le.filter fun k => isBx (ndA ns k))) ++ [.int (mn : Nat)]))) := Adv.new nD6
                  have MD6 : D6 ∉ M := fun z => al D6 z (c.free (by simp) nD6)
                  have hD6 : (upd G6 D6 (.lst ((nVl (inB ns le) ++ nVl (le.filter fun k => isBx (ndA ns k))) ++ [.int (mn : Nat)]))) D6 = some (.lst ((nVl (inB ns le) ++ nVl (le.filter fun k => isBx (ndA ns k))) ++ [.int (mn : Nat)])) := upd_same
                  replace hD := b.same _ _ hD
                  replace hD2 := b.same _ _ hD2
                  replace hD4 := b.same _ _ hD4
                  replace hD5 := b.same _ _ hD5
                  replace sqn := SqT.adv b sqn
                  replace c := c.trans b
                  generalize (upd G6 D6 (.lst ((nVl (inB ns le) ++ nVl (le.filter fun k => isBx (ndA ns k))) ++ [.int (mn : Nat)]))) = G7 at b hD6 hD hD2 hD4 hD5 c sqn
                  clear b
                  walk_at "rd"
                  refine ⟨by show 1 ≤ sizeLine; decide, fun D7 nD7 => ?_⟩
                  have b : Adv [] G7 (upd G7 D7 (.lst [.int (j : Nat)])) := Adv.new nD7
                  have MD7 : D7 ∉ M := fun z => al D7 z (c.free (by simp) nD7)
                  have hD7 : (upd G7 D7 (.lst [.int (j : Nat)])) D7 = some (.lst [.int (j : Nat)]) := upd_same
                  replace hD := b.same _ _ hD
                  replace hD2 := b.same _ _ hD2
                  replace hD4 := b.same _ _ hD4
                  replace hD5 := b.same _ _ hD5
                  replace hD6 := b.same _ _ hD6
                  replace sqn := SqT.adv b sqn
                  replace c := c.trans b
                  generalize (upd G7 D7 (.lst [.int (j : Nat)])) = G8 at b hD7 hD hD2 hD4 hD5 hD6 c sqn
                  clear b
                  walk_at "rd"
                  refine ⟨by show 2 ≤ sizeLine; decide, fun t nt => ?_⟩
                  have b : Adv [] G8 (upd G8 t (.tup [.ref D6, .ref D7])) := Adv.new nt
                  have Mt : t ∉ M := fun z => al t z (c.free (by simp) nt)
                  have ht : (upd G8 t (.tup [.ref D6, .ref D7])) t = some (.tup [.ref D6, .ref D7]) := upd_same
                  replace hD := b.same _ _ hD
                  replace hD2 := b.same _ _ hD2
                  replace hD4 := b.same _ _ hD4
                  replace hD5 := b.same _ _ hD5
                  replace hD6 := b.same _ _ hD6
                  replace hD7 := b.same _ _ hD7
                  replace sqn := SqT.adv b sqn
                  replace c := c.trans b
                  generalize (upd G8 t (.tup [.ref D6, .ref D7])) = G9 at b ht hD hD2 hD4 hD5 hD6 hD7 c sqn
                  clear b
                  walk_at "rd"
                  refine ⟨by show 1 ≤ sizeLine; decide, fun D8 nD8 => ?_⟩
                  have b : Adv [] G9 (upd G9 D8 (.lst [.ref t])) := Adv.new nD8
                  have MD8 : D8 ∉ M := fun z => al D8 z (c.free (by simp) nD8)
                  have hD8 : (upd G9 D8 (.lst [.ref t])) D8 = some (.lst [.ref t]) := upd_same
                  replace hD := b.same _ _ hD
                  replace hD2 := b.same _ _ hD2
                  replace hD4 := b.same _ _ hD4
                  replace hD5 := b.same _ _ hD5
                  replace hD6 := b.same _ _ hD6
                  replace hD7 := b.same _ _ hD7
                  replace ht := b.same _ _ ht
                  replace sqn := SqT.adv b sqn
                  replace c := c.trans b
                  generalize (upd G9 D8 (.lst [.ref t])) = G10 at b hD8 hD hD2 hD4 hD5 hD6 hD7 ht c sqn
                  clear b
                  exact q1' _ _ (.lst hD8 MD8 (.cons (sidesL_is ht Mt hD6 (by unfold nVl; rw [List.map_append, List.map_append]; rfl) MD6 hD7 rfl MD7) .nil)) c
end

set_option Elab.async false
set_option linter.all false
set_option maxRecDepth 100000
set_option maxHeartbeats 4000000
open PySem PySem.Spec PyProof.Rows L2 LL
open C8 (pss_cut)
section
variable [KW]
variable {P : Program} {w : World} {K : PySem.W.Frag} {mg : Str → Option Value} {base : Heap}
theorem ok_law_told (A : All K mg w) : FnOk P w K mg base CX0 3 A.law_told.f A.law_told.fd ["logic", "sheet", "theory", "line"] spTol := by
  refine A.law_told.F.ok sc_law_told (fun vs H Q E h => ?_) (fun cdv Ar outer s H vs Q E hr h => ?_)
  · obtain ⟨M, lg, sh, tt, v, rs, ns, th, l, rfl, _⟩ := h.ex
    rfl
  · obtain ⟨M, lg, sh, tt, v, rs, ns, th, l, rfl, al, hsh, hrs, htt, hv, ok, hlg, nd, q0, q1⟩ := h.ex
    obtain ⟨t3, h3, q3⟩ := told3 (P := P) (base := base) (s := s) (outer := outer) (H := H) (E := E) (cdv := cdv) (Ar := Ar) A hr
    refine ⟨_, (pss_cons (ps_asg (pv 3) (pg_tup rfl (pgs_cons (pg_name (i := 4) sc_law_told.nd rfl (Or.inl rfl)) (pgs_cons (pg_name (i := 5) sc_law_told.nd rfl (Or.inl rfl)) (pgs_cons (pg_name (i := 6) sc_law_told.nd rfl (Or.inl rfl)) (pgs_cons (pg_name (i := 7) sc_law_told.nd rfl (Or.inl rfl)) (pgs_cons (pg_name (i := 8) sc_law_told.nd rfl (Or.inl rfl)) pgs_nil)))))))
  (pss_cons (ps_par (i := 4) (j := 5) (by rfl) sc_law_told.nd rfl rfl (by decide) rfl rfl (pa_cons (pe_callTy call_list_of (by rfl) A.T.list (by decide +kernel) (pa_cons (pv 4) pa_nil)) (pa_cons (pe_callTy call_list_of (by rfl) A.T.list (by decide +kernel) (pa_cons (pv 5) pa_nil)) pa_nil)) (by rfl))
  (pss_cons (ps_if (pt_cmpR op_eq (pv 6) pe_str (nomark _))
    (pss_one (ps_ret (pe_ifExp (PW.pt (pw_and (pt_cmpR (op_inD (hu65 hr)) (pe_tup (pa_cons pe_str pa_nil)) (pv 1) rfl) (pw_and1 (pt_cmpR (op_inK K rfl) (pe_bm PySem.F.plainAttrs_list PySem.F.slot_list_index PySem.F.type_list_index (mt_indexD (hu65 hr)) (pv 1) (pa_cons (pe_tup (pa_cons pe_str pa_nil)) pa_nil)) (pv 4) rfl)))) (pe_lst pa_nil) pe_non)))
    pss_nil)
  (pss_cons (ps_if (pt_cmpR op_eq (pv 6) pe_str (nomark _))
    (pss_one (ps_ret (pe_ifExp (PW.pt (pw_and (pt_cmpR (op_inK K rfl) (pv 8) (pv 4) rfl) (pw_and1 (pt_cmpR (op_inK K rfl) (pv 8) (pv 5) rfl)))) (pe_lst pa_nil) pe_non)))
    pss_nil)
  (pss_cons (ps_if (pt_cmpR op_eq (pv 6) pe_str (nomark _))
    (pss_one (ps_ret (pe_ifExp (pt_cmpR (op_inK K rfl) (pv 8) (pv 2) rfl) (pe_lst (pa_cons (pe_tup (pa_cons (pe_op op_cat (pv 4) (pe_lst (pa_cons (pv 8) pa_nil))) (pa_cons (pv 5) pa_nil))) pa_nil)) pe_non)))
    pss_nil)
  (pss_cons (ps_if (pt_cmpR op_eq (pv 6) pe_str (nomark _))
    (pss_one (ps_ret (pe_lst (pa_cons (pe_tup (pa_cons (pv 4) (pa_cons (pe_op op_cat (pv 5) (pe_lst (pa_cons (pv 8) pa_nil))) pa_nil))) (pa_cons (pe_tup (pa_cons (pe_op op_cat (pv 4) (pe_lst (pa_cons (pv 8) pa_nil))) (pa_cons (pv 5) pa_nil))) pa_nil)))))
    pss_nil)
  (pss_cons (ps_set (i := 9) sc_law_told.nd rfl (Or.inl rfl) (pe_ix ix_list (pv 1) (pv 8) (fun _ _ => rfl)))
  (pss_cut (ps_if (pt_cmpR (op_inK K rfl) (pv 6) (pe_tup (pa_cons pe_str (pa_cons pe_str (pa_cons pe_str (pa_cons pe_str pa_nil))))) rfl)
    (pss_cons (ps_if (PW.pt (pw_or (pt_cmpR op_ne (pv 6) (pe_op op_add_str (pe_ix ix_tup (pv 9) pe_int (fun _ _ => rfl)) pe_str) (nomark _)) (pw_or (pt_cmpR (op_notInK K rfl) (pv 8) (pv 4) rfl) (pw_or1 (PW.pt (pw_and (pt_cmpR op_eq (pv 6) pe_str (nomark _)) (pw_and1 (pt_cmpR op_ne (pv 0) pe_str (nomark _)))))))))
    (pss_one (ps_ret pe_non))
    pss_nil)
  (pss_cons (ps_if (pt_cmpR op_eq (pv 6) pe_str (nomark _))
    (pss_one (ps_ret (pe_lst (pa_cons (pe_tup (pa_cons (pe_op op_cat (pv 4) (pe_lst (pa_cons (pe_ix ix_tup (pv 9) pe_int (fun _ _ => rfl)) pa_nil))) (pa_cons (pv 5) pa_nil))) pa_nil))))
    pss_nil)
  (pss_cons (ps_if (pt_cmpR op_eq (pv 6) pe_str (nomark _))
    (pss_one (ps_ret (pe_lst (pa_cons (pe_tup (pa_cons (pe_op op_cat (pv 4) (pe_lst (pa_cons (pe_ix ix_tup (pv 9) pe_int (fun _ _ => rfl)) (pa_cons (pe_ix ix_tup (pv 9) pe_int (fun _ _ => rfl)) pa_nil)))) (pa_cons (pv 5) pa_nil))) pa_nil))))
    pss_nil)
  (pss_one (ps_ret (pe_lst (pa_cons (pe_ifExp (pt_cmpR op_eq (pv 6) pe_str (nomark _)) (pe_tup (pa_cons (pe_op op_cat (pv 4) (pe_lst (pa_cons (pe_ix ix_tup (pv 9) pe_int (fun _ _ => rfl)) pa_nil))) (pa_cons (pv 5) pa_nil))) (pe_tup (pa_cons (pv 4) (pa_cons (pe_op op_cat (pv 5) (pe_lst (pa_cons (pe_ix ix_tup (pv 9) pe_int (fun _ _ => rfl)) pa_nil))) pa_nil)))) (pa_cons (pe_tup (pa_cons (pe_op op_cat (pv 4) (pe_lst (pa_cons (pe_ix ix_tup (pv 9) pe_int (fun _ _ => rfl)) pa_nil))) (pa_cons (pv 5) pa_nil))) pa_nil))))))))
    pss_nil)
  h3)))))))), ?_⟩
    obtain ⟨xa, us, rfl, tx, ix⟩ := hv.tupE
    obtain ⟨w1, w2, w3, w4, w5, rfl, i1, i2, i3, i4, i5⟩ := IsDs.five ix
    obtain ⟨ta, ua, rfl, tpa, ia⟩ := i1.tupE
    obtain ⟨tb, ub, rfl, tpb, ib⟩ := i2.tupE
    obtain rfl := nD_of ia
    obtain rfl := nD_of ib
    obtain rfl := i3.strE
    obtain rfl := i5.intE
    have sq := tx.sq (K := K) A.W
    have sqa := tpa.sq (K := K) A.W
    have sqb := tpb.sq (K := K) A.W
    refine ⟨_, rfl, ?_⟩
    refine rd_gtup sq rfl ?_
    walk_at "rd"
    intro L nL
    have a1 : Adv [] H (upd H L (.lst (nVl l.left))) := Adv.new nL
    have hL : (upd H L (.lst (nVl l.left))) L = some (.lst (nVl l.left)) := upd_same
    generalize (upd H L (.lst (nVl l.left))) = H1 at a1 hL
    have sqb1 := SqT.adv a1 sqb
    walk_at "rd"
    intro R nR
    have a2 : Adv [] H1 (upd H1 R (.lst (nVl l.right))) := Adv.new nR
    have hR : (upd H1 R (.lst (nVl l.right))) R = some (.lst (nVl l.right)) := upd_same
    replace hL := a2.same _ _ hL
    generalize (upd H1 R (.lst (nVl l.right))) = H2 at a2 hR hL
    have a02 := a1.trans a2
    have hsh2 := a02.same _ _ hsh
    have hrs2 := hrs.adv a02.nil
    have htt2 := htt.adv a02.nil
    have al2 : ∀ b ∈ M, H2 b ≠ none := fun b hb z => al b hb (a02.free (by simp) z)
    have lM : L ∉ M := fun z => al L z nL
    have rM : R ∉ M := fun z => al R z (a1.free (by simp) nR)
    obtain ⟨le, ri, r, pr, m⟩ := l
    dsimp only at *
    clear hv ix i1 i2 i3 i4 i5 ia ib sq sqa sqb sqb1 tpa tpb tx hsh hrs htt nL nR a1 a2 al
    walk_at "rd"
    cases r
    case no =>
      have q0' : (le.any fun x => decide (ndA ns x = .no)) = false → ∀ H', Adv [] H H' → Q .non H' := q0
      have q1' : (le.any fun x => decide (ndA ns x = .no)) = true → ∀ (x : V) (H' : Hp), Is M H' (.list []) x → Adv [] H H' → Q x H' := q1
      clear q0 q1
      refine iteY (by decide) ?_
      walk_at "rd"
      refine ⟨by show 1 ≤ sizeLine; decide, fun t nt => ?_⟩
      have b1 : Adv [] H2 (upd H2 t (.tup [.str "no"])) := Adv.new nt
      have dn : Dp K (upd H2 t (.tup [.str "no"])) (.ref t) (.tuple [.str "no"]) := .tup (SqT.of upd_same) (.cons (.str _) .nil)
      generalize (upd H2 t (.tup [.str "no"])) = H3 at b1 dn
      have hsh3 := b1.same _ _ hsh2
      have hrs3 := hrs2.adv b1.nil
      have hL3 := b1.same _ _ hL
      walk_at "rd"
      refine ⟨_, _, dn, .lst (SqL.of hsh3) (dp_nds A.W hrs3), nd_shaped .no, nds_shaped ns, ?_⟩
      rw [any_no]
      refine ⟨_, rfl, iteB (fun e => ?_) (fun e => ?_)⟩
      · have hm : Nd.no ∈ ns := of_decide_eq_true e
        obtain ⟨j, hj⟩ := List.getElem?_of_mem hm
        walk_at "rd"
        refine ⟨by show 1 ≤ sizeLine; decide, fun t2 nt2 => ?_⟩
        have b2 : Adv [] H3 (upd H3 t2 (.tup [.str "no"])) := Adv.new nt2
        have dn2 : Dp K (upd H3 t2 (.tup [.str "no"])) (.ref t2) (.tuple [.str "no"]) := .tup (SqT.of upd_same) (.cons (.str _) .nil)
        generalize (upd H3 t2 (.tup [.str "no"])) = H4 at b2 dn2
        have hL4 := b2.same _ _ hL3
        have b02 := b1.trans b2
        walk_at "rd"
        have ejn : (le.any fun x => decide ((x : Int) = ((j : Nat) : Int))) = (le.any fun x => decide (ndA ns x = .no)) := by
          rw [Bool.eq_iff_iff, List.any_eq_true, List.any_eq_true]
          have key : ∀ x ∈ le, decide ((x : Int) = ((j : Nat) : Int)) = true ↔ decide (ndA ns x = .no) = true := fun x hx => by
            have hl : x < ns.length := ok.left x hx
            rw [decide_eq_true_iff, decide_eq_true_iff]
            constructor
            · intro z
              have : x = j := by omega
              subst this
              unfold ndA
              rw [hj]; rfl
            · intro z
              have e1 : ns[x]? = some .no := by
                unfold ndA at z
                rw [List.getElem?_eq_getElem hl] at z ⊢
                exact congrArg some z
              have : x = j := (List.getElem?_inj hl nd).mp (e1.trans hj.symm)
              rw [this]
          exact ⟨fun ⟨x, hx, k⟩ => ⟨x, hx, (key x hx).mp k⟩, fun ⟨x, hx, k⟩ => ⟨x, hx, (key x hx).mpr k⟩⟩
        refine ⟨sh, .ref t2, .tuple [.str "no"], _, j, Nd.no.data, rfl, rfl, .lst (SqL.of (b2.same _ _ hsh3)) (dp_nds A.W (hrs3.adv b2.nil)), dn2, nds_shaped ns, nd_shaped .no, by rw [List.getElem?_map, hj]; rfl, by rw [nd_eqNo]; decide, ?_, ?_⟩
        · intro m' z' hm' hz'
          rw [List.getElem?_map] at hz'
          cases e5 : ns[m']? with
          | none => rw [e5] at hz'; cases hz'
          | some n' =>
            rw [e5] at hz'
            obtain rfl := Option.some.inj hz'
            rw [nd_eqNo]
            refine decide_eq_false fun z => ?_
            rw [z] at e5
            have hl := (List.getElem?_eq_some_iff.mp e5).1
            have := (List.getElem?_inj hl nd).mp (e5.trans hj.symm)
            omega
        · walk_at "rd"
          refine ⟨L, _, rfl, .inl (SqL.of hL4), rfl, flat_ints _, ?_⟩
          rw [inV_ints, ejn]
          refine ⟨_, rfl, iteB (fun e2 => ?_) (fun e2 => ?_)⟩
          · walk_at "rd"
            refine ⟨Nat.zero_le _, fun D nD => ?_⟩
            exact q1' (by simpa using e2) _ _ (.lst upd_same (fun z => al2 D z (b02.free (by simp) nD)) .nil) (a02.trans (b02.trans (Adv.new nD)))
          · exact q0' (by simpa using e2) _ (a02.trans b02)
      · have e0 : (le.any fun x => decide (ndA ns x = .no)) = false := by
          rw [List.any_eq_false]
          intro x hx z
          have hn : Nd.no ∉ ns := of_decide_eq_false e
          have hl : x < ns.length := ok.left x hx
          apply hn
          rw [← of_decide_eq_true z]
          unfold ndA
          rw [List.getElem?_eq_getElem hl]
          exact List.getElem_mem hl
        exact q0' e0 _ (a02.trans b1)
    case cut =>
      obtain ⟨mn, em, hmn⟩ := ok.main (by intro z; cases z)
      have em : m = (mn : Int) := em
      subst em
      have q1' : ∀ (x : V) (H' : Hp), Is M H' (.list [sidesL (le ++ [], ri ++ [mn]), sidesL (le ++ [mn], ri ++ [])]) x → Adv [] H H' → Q x H' := q1 rfl
      rw [List.append_nil, List.append_nil] at q1'
      clear q0 q1
      have z1 : le.length ≤ 100000 := ok.z1
      have z2 : ri.length ≤ 100000 := ok.z2
      refine iteN (by decide) ?_
      walk_at "rd"
      refine ⟨by show 1 ≤ sizeLine; decide, fun D nD => ?_⟩
      have b1 : Adv [] H2 (upd H2 D (.lst [.int (mn : Nat)])) := Adv.new nD
      have hD : (upd H2 D (.lst [.int (mn : Nat)])) D = some (.lst [.int (mn : Nat)]) := upd_same
      generalize (upd H2 D (.lst [.int (mn : Nat)])) = H3 at b1 hD
      refine rd_cat (b1.same _ _ hR) hD (by rw [nVl_len, sizeLine_eq]; show _ + 1 ≤ _; omega) fun D2 nD2 => ?_
      have b2 : Adv [] H3 (upd H3 D2 (.lst (nVl ri ++ [.int (mn : Nat)]))) := Adv.new nD2
      have hD2 : (upd H3 D2 (.lst (nVl ri ++ [.int (mn : Nat)]))) D2 = some (.lst (nVl ri ++ [.int (mn : Nat)])) := upd_same
      generalize (upd H3 D2 (.lst (nVl ri ++ [.int (mn : Nat)]))) = H4 at b2 hD2
      walk_at "rd"
      refine ⟨by show 2 ≤ sizeLine; decide, fun t nt => ?_⟩
      have b3 : Adv [] H4 (upd H4 t (.tup [.ref L, .ref D2])) := Adv.new nt
      have ht : (upd H4 t (.tup [.ref L, .ref D2])) t = some (.tup [.ref L, .ref D2]) := upd_same
      generalize (upd H4 t (.tup [.ref L, .ref D2])) = H5 at b3 ht
      walk_at "rd"
      refine ⟨by show 1 ≤ sizeLine; decide, fun D3 nD3 => ?_⟩
      have b4 : Adv [] H5 (upd H5 D3 (.lst [.int (mn : Nat)])) := Adv.new nD3
      have hD3 : (upd H5 D3 (.lst [.int (mn : Nat)])) D3 = some (.lst [.int (mn : Nat)]) := upd_same
      generalize (upd H5 D3 (.lst [.int (mn : Nat)])) = H6 at b4 hD3
      have b14 := b1.trans (b2.trans (b3.trans b4))
      refine rd_cat (b14.same _ _ hL) hD3 (by rw [nVl_len, sizeLine_eq]; show _ + 1 ≤ _; omega) fun D4 nD4 => ?_
      have b5 : Adv [] H6 (upd H6 D4 (.lst (nVl le ++ [.int (mn : Nat)]))) := Adv.new nD4
      have hD4 : (upd H6 D4 (.lst (nVl le ++ [.int (mn : Nat)]))) D4 = some (.lst (nVl le ++ [.int (mn : Nat)])) := upd_same
      generalize (upd H6 D4 (.lst (nVl le ++ [.int (mn : Nat)]))) = H7 at b5 hD4
      walk_at "rd"
      refine ⟨by show 2 ≤ sizeLine; decide, fun u nu => ?_⟩
      have b6 : Adv [] H7 (upd H7 u (.tup [.ref D4, .ref R])) := Adv.new nu
      have hu : (upd H7 u (.tup [.ref D4, .ref R])) u = some (.tup [.ref D4, .ref R]) := upd_same
      generalize (upd H7 u (.tup [.ref D4, .ref R])) = H8 at b6 hu
      walk_at "rd"
      refine ⟨by show 2 ≤ sizeLine; decide, fun D5 nD5 => ?_⟩
      have b7 : Adv [] H8 (upd H8 D5 (.lst [.ref t, .ref u])) := Adv.new nD5
      have b57 := b5.trans (b6.trans b7)
      have b47 := b4.trans b57
      have b17 := b14.trans b57
      have M2 : D2 ∉ M := fun z => al2 D2 z (b1.free (by simp) nD2)
      have Mt : t ∉ M := fun z => al2 t z ((b1.trans b2).free (by simp) nt)
      have M4 : D4 ∉ M := fun z => al2 D4 z (b14.free (by simp) nD4)
      have Mu : u ∉ M := fun z => al2 u z ((b14.trans b5).free (by simp) nu)
      have M5 : D5 ∉ M := fun z => al2 D5 z ((b14.trans (b5.trans b6)).free (by simp) nD5)
      exact q1' _ _ (.lst upd_same M5 (.cons (sidesL_is (b47.same _ _ ht) Mt (b17.same _ _ hL) rfl lM ((b3.trans b47).same _ _ hD2) (nVl_snoc _ _) M2)
        (.cons (sidesL_is (b7.same _ _ hu) Mu ((b6.trans b7).same _ _ hD4) (nVl_snoc _ _) M4 (b17.same _ _ hR) rfl rM) .nil))) (a02.trans b17)
    · -- axiom
      have q0' : ((le.any fun x => decide ((x : Int) = m)) && (ri.any fun x => decide ((x : Int) = m))) = false → ∀ H', Adv [] H H' → Q .non H' := q0
      have q1' : ((le.any fun x => decide ((x : Int) = m)) && (ri.any fun x => decide ((x : Int) = m))) = true → ∀ (x : V) (H' : Hp), Is M H' (.list []) x → Adv [] H H' → Q x H' := q1
      clear q0 q1
      refine iteN (by decide) ?_
      walk_at "rd"
      refine ⟨L, _, rfl, .inl (SqL.of hL), rfl, flat_ints _, ?_⟩
      rw [inV_ints]
      refine ⟨_, rfl, iteB (fun e => ?_) (fun e => ?_)⟩
      · have e1 : (le.any fun x => decide ((x : Int) = m)) = true := by simpa using e
        rw [e1, Bool.true_and] at q0' q1'
        walk_at "rd"
        refine ⟨R, _, rfl, .inl (SqL.of hR), rfl, flat_ints _, ?_⟩
        rw [inV_ints]
        refine ⟨_, rfl, iteB (fun e2 => ?_) (fun e2 => ?_)⟩
        · walk_at "rd"
          refine ⟨Nat.zero_le _, fun D nD => ?_⟩
          exact q1' (by simpa using e2) _ _ (.lst upd_same (fun z => al2 D z nD) .nil) (a02.trans (Adv.new nD))
        · exact q0' (by simpa using e2) _ a02
      · have e1 : (le.any fun x => decide ((x : Int) = m)) = false := by simpa using e
        rw [e1, Bool.false_and] at q0'
        exact q0' rfl _ a02
    · -- given
      have q0' : (th.any fun x => decide ((x : Int) = m)) = false → ∀ H', Adv [] H H' → Q .non H' := q0
      obtain ⟨mn, em, hmn⟩ := ok.main (by intro z; cases z)
      have em : m = (mn : Int) := em
      subst em
      have q1' : (th.any fun x => decide ((x : Int) = (mn : Int))) = true → ∀ (x : V) (H' : Hp), Is M H' (.list [sidesL (le ++ [mn], ri ++ [])]) x → Adv [] H H' → Q x H' := q1
      rw [List.append_nil] at q1'
      clear q0 q1
      refine iteN (by decide) ?_
      have sqt := htt2.sq (K := K) A.W
      have z1 : le.length ≤ 100000 := ok.z1
      walk_at "rd"
      refine ⟨tt, _, rfl, .inr sqt, rfl, flat_ints _, ?_⟩
      rw [inV_ints]
      refine ⟨_, rfl, iteB (fun e => ?_) (fun e => ?_)⟩
      · walk_at "rd"
        refine ⟨by show 1 ≤ sizeLine; decide, fun D nD => ?_⟩
        have b1 : Adv [] H2 (upd H2 D (.lst [.int (mn : Nat)])) := Adv.new nD
        have hD : (upd H2 D (.lst [.int (mn : Nat)])) D = some (.lst [.int (mn : Nat)]) := upd_same
        generalize (upd H2 D (.lst [.int (mn : Nat)])) = H3 at b1 hD
        refine rd_cat (b1.same _ _ hL) hD (by rw [nVl_len, sizeLine_eq]; show _ + 1 ≤ _; omega) fun D2 nD2 => ?_
        have b2 : Adv [] H3 (upd H3 D2 (.lst (nVl le ++ [.int (mn : Nat)]))) := Adv.new nD2
        have hD2 : (upd H3 D2 (.lst (nVl le ++ [.int (mn : Nat)]))) D2 = some (.lst (nVl le ++ [.int (mn : Nat)])) := upd_same
        generalize (upd H3 D2 (.lst (nVl le ++ [.int (mn : Nat)]))) = H4 at b2 hD2
        walk_at "rd"
        refine ⟨by show 2 ≤ sizeLine; decide, fun t nt => ?_⟩
        have b3 : Adv [] H4 (upd H4 t (.tup [.ref D2, .ref R])) := Adv.new nt
        have ht : (upd H4 t (.tup [.ref D2, .ref R])) t = some (.tup [.ref D2, .ref R]) := upd_same
        generalize (upd H4 t (.tup [.ref D2, .ref R])) = H5 at b3 ht
        walk_at "rd"
        refine ⟨by show 1 ≤ sizeLine; decide, fun D3 nD3 => ?_⟩
        have b4 : Adv [] H5 (upd H5 D3 (.lst [.ref t])) := Adv.new nD3
        have b24 := b1.trans (b2.trans (b3.trans b4))
        have M2 : D2 ∉ M := fun z => al2 D2 z (b1.free (by simp) nD2)
        have Mt : t ∉ M := fun z => al2 t z ((b1.trans b2).free (by simp) nt)
        have M3 : D3 ∉ M := fun z => al2 D3 z ((b1.trans (b2.trans b3)).free (by simp) nD3)
        refine q1' (by simpa using e) _ _ (.lst upd_same M3 (.cons (sidesL_is (b4.same _ _ ht) Mt ((b3.trans b4).same _ _ hD2) (nVl_snoc _ _) M2 (b24.same _ _ hR) rfl rM) .nil)) (a02.trans b24)
      · exact q0' (by simpa using e) _ a02
    · -- and left
      obtain ⟨mn, em, hmn⟩ := ok.main (by intro z; cases z)
      have em : m = (mn : Int) := em
      subst em
      have ea := ask_left (lg := lg) (ns := ns) (th := th) (le := le) (ri := ri) (pr := pr) (r := .andL) (m := mn) rfl (fun z => nomatch z)
      rw [ea] at q0 q1
      obtain ⟨nd', hnd, tn⟩ := nd_at hrs2 hmn
      have sqn := tn.sq (K := K) A.W
      have z1 : le.length ≤ 100000 := ok.z1
      refine iteN (by decide) ?_
      walk_at "rd"
      refine ⟨fun _ _ => False, ?_, fun _ _ z => z.elim⟩
      walk_at "rd"
      refine ⟨by show 4 ≤ sizeLine; decide, fun t0 nt0 => ?_⟩
      have b0 : Adv [] H2 (upd H2 t0 (.tup [.str "and left", .str "or left", .str "if left", .str "box left"])) := Adv.new nt0
      have ht0 : (upd H2 t0 (.tup [.str "and left", .str "or left", .str "if left", .str "box left"])) t0 = some (.tup [.str "and left", .str "or left", .str "if left", .str "box left"]) := upd_same
      generalize (upd H2 t0 (.tup [.str "and left", .str "or left", .str "if left", .str "box left"])) = H3 at b0 ht0
      refine ⟨t0, _, rfl, .inr (SqT.of ht0), rfl, rfl, ?_⟩
      refine ⟨_, rfl, iteY (by decide) ?_⟩
      have sqn3 := SqT.adv b0 sqn
      walk_at "rd"
      refine rd_ixT sqn3 (atI_nat (j := 0) (wdN_at _)) ?_
      walk_at "rd"
      refine ⟨_, _, rfl, rfl, wd_len _ _ (by decide +kernel), ?_⟩
      walk_at "rd"
      rw [wd_left .andL _ rfl]
      refine iteB (fun e => ?_) (fun e => ?_)
      · have e1 : fitsK .andL (ndA ns mn) = false := by simpa using e
        rw [e1, Bool.false_and] at q0
        walk_at "rd"
        exact q0 rfl _ (a02.trans b0)
      · have e1 : fitsK .andL (ndA ns mn) = true := by simpa using e
        rw [e1, Bool.true_and] at q0 q1
        walk_at "rd"
        have hL3 := b0.same _ _ hL
        refine ⟨L, _, rfl, .inl (SqL.of hL3), rfl, flat_ints _, ?_⟩
        rw [inV_ints, if_pos rfl]
        refine ⟨_, rfl, iteB (fun e2 => ?_) (fun e2 => ?_)⟩
        · walk_at "rd"
          exact q0 (by simpa using e2) _ (a02.trans b0)
        · have e3 : (le.any fun x => decide ((x : Int) = (mn : Int))) = true := by simpa using e2
          obtain ⟨o, j, k, en⟩ := fits_bin (r := .andL) e1 rfl
          have q1' : ∀ (x : V) (H' : Hp), Is M H' (.list [sidesL (le ++ [j, k], ri ++ [])]) x → Adv [] H H' → Q x H' := by
            have := q1 e3
            have et : toldF lg ns ⟨le, ri, .andL, pr, (mn : Nat)⟩ = [(le ++ (ndA ns mn).parts, ri ++ [])] := rfl
            rw [et, en] at this
            exact this
          rw [List.append_nil] at q1'
          rw [en] at sqn3
          have sqn4 : SqT K H3 nd' [.str o.str, .int (j : Nat), .int (k : Nat)] := sqn3
          walk_at "rd"
          refine ⟨by show 2 ≤ sizeLine; decide, fun D nD => ?_⟩
          have b1 : Adv [] H3 (upd H3 D (.lst [.int (j : Nat), .int (k : Nat)])) := Adv.new nD
          have hD : (upd H3 D (.lst [.int (j : Nat), .int (k : Nat)])) D = some (.lst [.int (j : Nat), .int (k : Nat)]) := upd_same
          generalize (upd H3 D (.lst [.int (j : Nat), .int (k : Nat)])) = H4 at b1 hD
          refine rd_cat (b1.same _ _ hL3) hD (by rw [nVl_len, sizeLine_eq]; show _ + 2 ≤ _; omega) fun D2 nD2 => ?_
          have b2 : Adv [] H4 (upd H4 D2 (.lst (nVl le ++ [.int (j : Nat), .int (k : Nat)]))) := Adv.new nD2
          have hD2 : (upd H4 D2 (.lst (nVl le ++ [.int (j : Nat), .int (k : Nat)]))) D2 = some (.lst (nVl le ++ [.int (j : Nat), .int (k : Nat)])) := upd_same
          generalize (upd H4 D2 (.lst (nVl le ++ [.int (j : Nat), .int (k : Nat)]))) = H5 at b2 hD2
          walk_at "rd"
          refine ⟨by show 2 ≤ sizeLine; decide, fun t nt => ?_⟩
          have b3 : Adv [] H5 (upd H5 t (.tup [.ref D2, .ref R])) := Adv.new nt
          have ht : (upd H5 t (.tup [.ref D2, .ref R])) t = some (.tup [.ref D2, .ref R]) := upd_same
          generalize (upd H5 t (.tup [.ref D2, .ref R])) = H6 at b3 ht
          walk_at "rd"
          refine ⟨by show 1 ≤ sizeLine; decide, fun D3 nD3 => ?_⟩
          have b4 : Adv [] H6 (upd H6 D3 (.lst [.ref t])) := Adv.new nD3
          have b01 := b0.trans b1
          have b04 := b01.trans (b2.trans (b3.trans b4))
          have M2 : D2 ∉ M := fun z => al2 D2 z (b01.free (by simp) nD2)
          have Mt : t ∉ M := fun z => al2 t z ((b01.trans b2).free (by simp) nt)
          have M3 : D3 ∉ M := fun z => al2 D3 z ((b01.trans (b2.trans b3)).free (by simp) nD3)
          have ec : nVl le ++ [V.int (j : Nat), V.int (k : Nat)] = nVl (le ++ [j, k]) := by unfold nVl; rw [List.map_append]; rfl
          exact q1' _ _ (.lst upd_same M3 (.cons (sidesL_is (b4.same _ _ ht) Mt ((b3.trans b4).same _ _ hD2) ec M2 (b04.same _ _ hR) rfl rM) .nil)) (a02.trans b04)
    · -- or left
      obtain ⟨mn, em, hmn⟩ := ok.main (by intro z; cases z)
      have em : m = (mn : Int) := em
      subst em
      have ea := ask_left (lg := lg) (ns := ns) (th := th) (le := le) (ri := ri) (pr := pr) (r := .orL) (m := mn) rfl (fun z => nomatch z)
      rw [ea] at q0 q1
      obtain ⟨nd', hnd, tn⟩ := nd_at hrs2 hmn
      have sqn := tn.sq (K := K) A.W
      have z1 : le.length ≤ 100000 := ok.z1
      refine iteN (by decide) ?_
      walk_at "rd"
      refine ⟨fun _ _ => False, ?_, fun _ _ z => z.elim⟩
      walk_at "rd"
      refine ⟨by show 4 ≤ sizeLine; decide, fun t0 nt0 => ?_⟩
      have b0 : Adv [] H2 (upd H2 t0 (.tup [.str "and left", .str "or left", .str "if left", .str "box left"])) := Adv.new nt0
      have ht0 : (upd H2 t0 (.tup [.str "and left", .str "or left", .str "if left", .str "box left"])) t0 = some (.tup [.str "and left", .str "or left", .str "if left", .str "box left"]) := upd_same
      generalize (upd H2 t0 (.tup [.str "and left", .str "or left", .str "if left", .str "box left"])) = H3 at b0 ht0
      refine ⟨t0, _, rfl, .inr (SqT.of ht0), rfl, rfl, ?_⟩
      refine ⟨_, rfl, iteY (by decide) ?_⟩
      have sqn3 := SqT.adv b0 sqn
      walk_at "rd"
      refine rd_ixT sqn3 (atI_nat (j := 0) (wdN_at _)) ?_
      walk_at "rd"
      refine ⟨_, _, rfl, rfl, wd_len _ _ (by decide +kernel), ?_⟩
      walk_at "rd"
      rw [wd_left .orL _ rfl]
      refine iteB (fun e => ?_) (fun e => ?_)
      · have e1 : fitsK .orL (ndA ns mn) = false := by simpa using e
        rw [e1, Bool.false_and] at q0
        walk_at "rd"
        exact q0 rfl _ (a02.trans b0)
      · have e1 : fitsK .orL (ndA ns mn) = true := by simpa using e
        rw [e1, Bool.true_and] at q0 q1
        walk_at "rd"
        have hL3 := b0.same _ _ hL
        refine ⟨L, _, rfl, .inl (SqL.of hL3), rfl, flat_ints _, ?_⟩
        rw [inV_ints, if_pos rfl]
        refine ⟨_, rfl, iteB (fun e2 => ?_) (fun e2 => ?_)⟩
        · walk_at "rd"
          exact q0 (by simpa using e2) _ (a02.trans b0)
        · have e3 : (le.any fun x => decide ((x : Int) = (mn : Int))) = true := by simpa using e2
          obtain ⟨o, j, k, en⟩ := fits_bin (r := .orL) e1 rfl
          have q1' : ∀ (x : V) (H' : Hp), Is M H' (.list [sidesL (le ++ [j], ri ++ []), sidesL (le ++ [k], ri ++ [])]) x → Adv [] H H' → Q x H' := by
            have := q1 e3
            have et : toldF lg ns ⟨le, ri, .orL, pr, (mn : Nat)⟩ = [(le ++ (ndA ns mn).parts.take 1, ri ++ []), (le ++ (ndA ns mn).parts.drop 1, ri ++ [])] := rfl
            rw [et, en] at this
            exact this
          rw [List.append_nil] at q1'
          rw [en] at sqn3
          have sqn4 : SqT K H3 nd' [.str o.str, .int (j : Nat), .int (k : Nat)] := sqn3
          have hR3 := b0.same _ _ hR
          have c := b0
          clear q0 q1 hL hR sqn sqn3 ht0 b0
          walk_at "rd"
          refine ⟨by show 1 ≤ sizeLine; decide, fun D1 nD1 => ?_⟩
          have b : Adv [] H3 (upd H3 D1 (.lst [.int (j : Nat)])) := Adv.new nD1
          have MD1 : D1 ∉ M := fun z => al2 D1 z (c.free (by simp) nD1)
          have hD1 : (upd H3 D1 (.lst [.int (j : Nat)])) D1 = some (.lst [.int (j : Nat)]) := upd_same
          replace hL3 := b.same _ _ hL3
          replace hR3 := b.same _ _ hR3
          replace sqn4 := SqT.adv b sqn4
          replace c := c.trans b
          generalize (upd H3 D1 (.lst [.int (j : Nat)])) = G1 at b hD1 hL3 hR3 c sqn4
          clear b
          refine rd_cat hL3 hD1 (by rw [nVl_len, sizeLine_eq]; show _ + 1 ≤ _; omega) fun D2 nD2 => ?_
          have b : Adv [] G1 (upd G1 D2 (.lst (nVl le ++ [.int (j : Nat)]))) := Adv.new nD2
          have MD2 : D2 ∉ M := fun z => al2 D2 z (c.free (by simp) nD2)
          have hD2 : (upd G1 D2 (.lst (nVl le ++ [.int (j : Nat)]))) D2 = some (.lst (nVl le ++ [.int (j : Nat)])) := upd_same
          replace hL3 := b.same _ _ hL3
          replace hR3 := b.same _ _ hR3
          replace hD1 := b.same _ _ hD1
          replace sqn4 := SqT.adv b sqn4
          replace c := c.trans b
          generalize (upd G1 D2 (.lst (nVl le ++ [.int (j : Nat)]))) = G2 at b hD2 hL3 hR3 hD1 c sqn4
          clear b
          walk_at "rd"
          refine ⟨by show 2 ≤ sizeLine; decide, fun t nt => ?_⟩
          have b : Adv [] G2 (upd G2 t (.tup [.ref D2, .ref R])) := Adv.new nt
          have Mt : t ∉ M := fun z => al2 t z (c.free (by simp) nt)
          have ht : (upd G2 t (.tup [.ref D2, .ref R])) t = some (.tup [.ref D2, .ref R]) := upd_same
          replace hL3 := b.same _ _ hL3
          replace hR3 := b.same _ _ hR3
          replace hD1 := b.same _ _ hD1
          replace hD2 := b.same _ _ hD2
          replace sqn4 := SqT.adv b sqn4
          replace c := c.trans b
          generalize (upd G2 t (.tup [.ref D2, .ref R])) = G3 at b ht hL3 hR3 hD1 hD2 c sqn4
          clear b
          walk_at "rd"
          refine ⟨by show 1 ≤ sizeLine; decide, fun D3 nD3 => ?_⟩
          have b : Adv [] G3 (upd G3 D3 (.lst [.int (k : Nat)])) := Adv.new nD3
          have MD3 : D3 ∉ M := fun z => al2 D3 z (c.free (by simp) nD3)
          have hD3 : (upd G3 D3 (.lst [.int (k : Nat)])) D3 = some (.lst [.int (k : Nat)]) := upd_same
          replace hL3 := b.same _ _ hL3
          replace hR3 := b.same _ _ hR3
          replace hD1 := b.same _ _ hD1
          replace hD2 := b.same _ _ hD2
          replace ht := b.same _ _ ht
          replace sqn4 := SqT.adv b sqn4
          replace c := c.trans b
          generalize (upd G3 D3 (.lst [.int (k : Nat)])) = G4 at b hD3 hL3 hR3 hD1 hD2 ht c sqn4
          clear b
          refine rd_cat hL3 hD3 (by rw [nVl_len, sizeLine_eq]; show _ + 1 ≤ _; omega) fun D4 nD4 => ?_
          have b : Adv [] G4 (upd G4 D4 (.lst (nVl le ++ [.int (k : Nat)]))) := Adv.new nD4
          have MD4 : D4 ∉ M := fun z => al2 D4 z (c.free (by simp) nD4)
          have hD4 : (upd G4 D4 (.lst (nVl le ++ [.int (k : Nat)]))) D4 = some (.lst (nVl le ++ [.int (k : Nat)])) := upd_same
          replace hL3 := b.same _ _ hL3
          replace hR3 := b.same _ _ hR3
          replace hD1 := b.same _ _ hD1
          replace hD2 := b.same _ _ hD2
          replace ht := b.same _ _ ht
          replace hD3 := b.same _ _ hD3
          replace sqn4 := SqT.adv b sqn4
          replace c := c.trans b
          generalize (upd G4 D4 (.lst (nVl le ++ [.int (k : Nat)]))) = G5 at b hD4 hL3 hR3 hD1 hD2 ht hD3 c sqn4
          clear b
          walk_at "rd"
          refine ⟨by show 2 ≤ sizeLine; decide, fun u nu => ?_⟩
          have b : Adv [] G5 (upd G5 u (.tup [.ref D4, .ref R])) := Adv.new nu
          have Mu : u ∉ M := fun z => al2 u z (c.free (by simp) nu)
          have hu : (upd G5 u (.tup [.ref D4, .ref R])) u = some (.tup [.ref D4, .ref R]) := upd_same
          replace hL3 := b.same _ _ hL3
          replace hR3 := b.same _ _ hR3
          replace hD1 := b.same _ _ hD1
          replace hD2 := b.same _ _ hD2
          replace ht := b.same _ _ ht
          replace hD3 := b.same _ _ hD3
          replace hD4 := b.same _ _ hD4
          replace sqn4 := SqT.adv b sqn4
          replace c := c.trans b
          generalize (upd G5 u (.tup [.ref D4, .ref R])) = G6 at b hu hL3 hR3 hD1 hD2 ht hD3 hD4 c sqn4
          clear b
          walk_at "rd"
          refine ⟨by show 2 ≤ sizeLine; decide, fun D5 nD5 => ?_⟩
          have b : Adv [] G6 (upd G6 D5 (.lst [.ref t, .ref u])) := Adv.new nD5
          have MD5 : D5 ∉ M := fun z => al2 D5 z (c.free (by simp) nD5)
          have hD5 : (upd G6 D5 (.lst [.ref t, .ref u])) D5 = some (.lst [.ref t, .ref u]) := upd_same
          replace hL3 := b.same _ _ hL3
          replace hR3 := b.same _ _ hR3
          replace hD1 := b.same _ _ hD1
          replace hD2 := b.same _ _ hD2
          replace ht := b.same _ _ ht
          replace hD3 := b.same _ _ hD3
          replace hD4 := b.same _ _ hD4
          replace hu := b.same _ _ hu
          replace sqn4 := SqT.adv b sqn4
          replace c := c.trans b
          generalize (upd G6 D5 (.lst [.ref t, .ref u])) = G7 at b hD5 hL3 hR3 hD1 hD2 ht hD3 hD4 hu c sqn4
          clear b
          exact q1' _ _ (.lst hD5 MD5 (.cons (sidesL_is ht Mt hD2 (nVl_snoc _ _) MD2 hR3 rfl rM) (.cons (sidesL_is hu Mu hD4 (nVl_snoc _ _) MD4 hR3 rfl rM) .nil))) (a02.trans c)
    · -- if left
      obtain ⟨mn, em, hmn⟩ := ok.main (by intro z; cases z)
      have em : m = (mn : Int) := em
      subst em
      have ea := ask_left (lg := lg) (ns := ns) (th := th) (le := le) (ri := ri) (pr := pr) (r := .ifL) (m := mn) rfl (fun z => nomatch z)
      rw [ea] at q0 q1
      obtain ⟨nd', hnd, tn⟩ := nd_at hrs2 hmn
      have sqn := tn.sq (K := K) A.W
      have z1 : le.length ≤ 100000 := ok.z1
      refine iteN (by decide) ?_
      walk_at "rd"
      refine ⟨fun _ _ => False, ?_, fun _ _ z => z.elim⟩
      walk_at "rd"
      refine ⟨by show 4 ≤ sizeLine; decide, fun t0 nt0 => ?_⟩
      have b0 : Adv [] H2 (upd H2 t0 (.tup [.str "and left", .str "or left", .str "if left", .str "box left"])) := Adv.new nt0
      have ht0 : (upd H2 t0 (.tup [.str "and left", .str "or left", .str "if left", .str "box left"])) t0 = some (.tup [.str "and left", .str "or left", .str "if left", .str "box left"]) := upd_same
      generalize (upd H2 t0 (.tup [.str "and left", .str "or left", .str "if left", .str "box left"])) = H3 at b0 ht0
      refine ⟨t0, _, rfl, .inr (SqT.of ht0), rfl, rfl, ?_⟩
      refine ⟨_, rfl, iteY (by decide) ?_⟩
      have sqn3 := SqT.adv b0 sqn
      walk_at "rd"
      refine rd_ixT sqn3 (atI_nat (j := 0) (wdN_at _)) ?_
      walk_at "rd"
      refine ⟨_, _, rfl, rfl, wd_len _ _ (by decide +kernel), ?_⟩
      walk_at "rd"
      rw [wd_left .ifL _ rfl]
      refine iteB (fun e => ?_) (fun e => ?_)
      · have e1 : fitsK .ifL (ndA ns mn) = false := by simpa using e
        rw [e1, Bool.false_and] at q0
        walk_at "rd"
        exact q0 rfl _ (a02.trans b0)
      · have e1 : fitsK .ifL (ndA ns mn) = true := by simpa using e
        rw [e1, Bool.true_and] at q0 q1
        walk_at "rd"
        have hL3 := b0.same _ _ hL
        refine ⟨L, _, rfl, .inl (SqL.of hL3), rfl, flat_ints _, ?_⟩
        rw [inV_ints, if_pos rfl]
        refine ⟨_, rfl, iteB (fun e2 => ?_) (fun e2 => ?_)⟩
        · walk_at "rd"
          exact q0 (by simpa using e2) _ (a02.trans b0)
        · have e3 : (le.any fun x => decide ((x : Int) = (mn : Int))) = true := by simpa using e2
          obtain ⟨o, j, k, en⟩ := fits_bin (r := .ifL) e1 rfl
          have q1' : ∀ (x : V) (H' : Hp), Is M H' (.list [sidesL (le ++ [], ri ++ [j]), sidesL (le ++ [k], ri ++ [])]) x → Adv [] H H' → Q x H' := by
            have := q1 e3
            have et : toldF lg ns ⟨le, ri, .ifL, pr, (mn : Nat)⟩ = [(le ++ [], ri ++ (ndA ns mn).parts.take 1), (le ++ (ndA ns mn).parts.drop 1, ri ++ [])] := rfl
            rw [et, en] at this
            exact this
          rw [List.append_nil, List.append_nil] at q1'
          have z2 : ri.length ≤ 100000 := ok.z2
          rw [en] at sqn3
          have sqn4 : SqT K H3 nd' [.str o.str, .int (j : Nat), .int (k : Nat)] := sqn3
          have hR3 := b0.same _ _ hR
          have c := b0
          clear q0 q1 hL hR sqn sqn3 ht0 b0
          walk_at "rd"
          refine ⟨by show 1 ≤ sizeLine; decide, fun D1 nD1 => ?_⟩
          have b : Adv [] H3 (upd H3 D1 (.lst [.int (j : Nat)])) := Adv.new nD1
          have MD1 : D1 ∉ M := fun z => al2 D1 z (c.free (by simp) nD1)
          have hD1 : (upd H3 D1 (.lst [.int (j : Nat)])) D1 = some (.lst [.int (j : Nat)]) := upd_same
          replace hL3 := b.same _ _ hL3
          replace hR3 := b.same _ _ hR3
          replace sqn4 := SqT.adv b sqn4
          replace c := c.trans b
          generalize (upd H3 D1 (.lst [.int (j : Nat)])) = G1 at b hD1 hL3 hR3 c sqn4
          clear b
          refine rd_cat hR3 hD1 (by rw [nVl_len, sizeLine_eq]; show _ + 1 ≤ _; omega) fun D2 nD2 => ?_
          have b : Adv [] G1 (upd G1 D2 (.lst (nVl ri ++ [.int (j : Nat)]))) := Adv.new nD2
          have MD2 : D2 ∉ M := fun z => al2 D2 z (c.free (by simp) nD2)
          have hD2 : (upd G1 D2 (.lst (nVl ri ++ [.int (j : Nat)]))) D2 = some (.lst (nVl ri ++ [.int (j : Nat)])) := upd_same
          replace hL3 := b.same _ _ hL3
          replace hR3 := b.same _ _ hR3
          replace hD1 := b.same _ _ hD1
          replace sqn4 := SqT.adv b sqn4
          replace c := c.trans b
          generalize (upd G1 D2 (.lst (nVl ri ++ [.int (j : Nat)]))) = G2 at b hD2 hL3 hR3 hD1 c sqn4
          clear b
          walk_at "rd"
          refine ⟨by show 2 ≤ sizeLine; decide, fun t nt => ?_⟩
          have b : Adv [] G2 (upd G2 t (.tup [.ref L, .ref D2])) := Adv.new nt
          have Mt : t ∉ M := fun z => al2 t z (c.free (by simp) nt)
          have ht : (upd G2 t (.tup [.ref L, .ref D2])) t = some (.tup [.ref L, .ref D2]) := upd_same
          replace hL3 := b.same _ _ hL3
          replace hR3 := b.same _ _ hR3
          replace hD1 := b.same _ _ hD1
          replace hD2 := b.same _ _ hD2
          replace sqn4 := SqT.adv b sqn4
          replace c := c.trans b
          generalize (upd G2 t (.tup [.ref L, .ref D2])) = G3 at b ht hL3 hR3 hD1 hD2 c sqn4
          clear b
          walk_at "rd"
          refine ⟨by show 1 ≤ sizeLine; decide, fun D3 nD3 => ?_⟩
          have b : Adv [] G3 (upd G3 D3 (.lst [.int (k : Nat)])) := Adv.new nD3
          have MD3 : D3 ∉ M := fun z => al2 D3 z (c.free (by simp) nD3)
          have hD3 : (upd G3 D3 (.lst [.int (k : Nat)])) D3 = some (.lst [.int (k : Nat)]) := upd_same
          replace hL3 := b.same _ _ hL3
          replace hR3 := b.same _ _ hR3
          replace hD1 := b.same _ _ hD1
          replace hD2 := b.same _ _ hD2
          replace ht := b.same _ _ ht
          replace sqn4 := SqT.adv b sqn4
          replace c := c.trans b
          generalize (upd G3 D3 (.lst [.int (k : Nat)])) = G4 at b hD3 hL3 hR3 hD1 hD2 ht c sqn4
          clear b
          refine rd_cat hL3 hD3 (by rw [nVl_len, sizeLine_eq]; show _ + 1 ≤ _; omega) fun D4 nD4 => ?_
          have b : Adv [] G4 (upd G4 D4 (.lst (nVl le ++ [.int (k : Nat)]))) := Adv.new nD4
          have MD4 : D4 ∉ M := fun z => al2 D4 z (c.free (by simp) nD4)
          have hD4 : (upd G4 D4 (.lst (nVl le ++ [.int (k : Nat)]))) D4 = some (.lst (nVl le ++ [.int (k : Nat)])) := upd_same
          replace hL3 := b.same _ _ hL3
          replace hR3 := b.same _ _ hR3
          replace hD1 := b.same _ _ hD1
          replace hD2 := b.same _ _ hD2
          replace ht := b.same _ _ ht
          replace hD3 := b.same _ _ hD3
          replace sqn4 := SqT.adv b sqn4
          replace c := c.trans b
          generalize (upd G4 D4 (.lst (nVl le ++ [.int (k : Nat)]))) = G5 at b hD4 hL3 hR3 hD1 hD2 ht hD3 c sqn4
          clear b
          walk_at "rd"
          refine ⟨by show 2 ≤ sizeLine; decide, fun u nu => ?_⟩
          have b : Adv [] G5 (upd G5 u (.tup [.ref D4, .ref R])) := Adv.new nu
          have Mu : u ∉ M := fun z => al2 u z (c.free (by simp) nu)
          have hu : (upd G5 u (.tup [.ref D4, .ref R])) u = some (.tup [.ref D4, .ref R]) := upd_same
          replace hL3 := b.same _ _ hL3
          replace hR3 := b.same _ _ hR3
          replace hD1 := b.same _ _ hD1
          replace hD2 := b.same _ _ hD2
          replace ht := b.same _ _ ht
          replace hD3 := b.same _ _ hD3
          replace hD4 := b.same _ _ hD4
          replace sqn4 := SqT.adv b sqn4
          replace c := c.trans b
          generalize (upd G5 u (.tup [.ref D4, .ref R])) = G6 at b hu hL3 hR3 hD1 hD2 ht hD3 hD4 c sqn4
          clear b
          walk_at "rd"
          refine ⟨by show 2 ≤ sizeLine; decide, fun D5 nD5 => ?_⟩
          have b : Adv [] G6 (upd G6 D5 (.lst [.ref t, .ref u])) := Adv.new nD5
          have MD5 : D5 ∉ M := fun z => al2 D5 z (c.free (by simp) nD5)
          have hD5 : (upd G6 D5 (.lst [.ref t, .ref u])) D5 = some (.lst [.ref t, .ref u]) := upd_same
          replace hL3 := b.same _ _ hL3
          replace hR3 := b.same _ _ hR3
          replace hD1 := b.same _ _ hD1
          replace hD2 := b.same _ _ hD2
          replace ht := b.same _ _ ht
          replace hD3 := b.same _ _ hD3
          replace hD4 := b.same _ _ hD4
          replace hu := b.same _ _ hu
          replace sqn4 := SqT.adv b sqn4
          replace c := c.trans b
          generalize (upd G6 D5 (.lst [.ref t, .ref u])) = G7 at b hD5 hL3 hR3 hD1 hD2 ht hD3 hD4 hu c sqn4
          clear b
          exact q1' _ _ (.lst hD5 MD5 (.cons (sidesL_is ht Mt hL3 rfl lM hD2 (nVl_snoc _ _) MD2) (.cons (sidesL_is hu Mu hD4 (nVl_snoc _ _) MD4 hR3 rfl rM) .nil))) (a02.trans c)
    · -- box left
      obtain ⟨mn, em, hmn⟩ := ok.main (by intro z; cases z)
      have em : m = (mn : Int) := em
      subst em
      have e0 : fitsK .boxL (ndA ns mn) = false ∨ (le.any fun x => decide ((x : Int) = (mn : Int))) = false ∨ ¬ lg = "s4" → askB lg ns th ⟨le, ri, .boxL, pr, (mn : Nat)⟩ = false := fun e => by
        by_cases el : lg = "s4"
        · rw [ask_left rfl (fun _ => el)]
          rcases e with e | e | e
          · rw [e, Bool.false_and]
          · rw [e, Bool.and_false]
          · exact absurd el e
        · exact ask_boxL el
      obtain ⟨nd', hnd, tn⟩ := nd_at hrs2 hmn
      have sqn := tn.sq (K := K) A.W
      have z1 : le.length ≤ 100000 := ok.z1
      refine iteN (by decide) ?_
      walk_at "rd"
      refine ⟨fun _ _ => False, ?_, fun _ _ z => z.elim⟩
      walk_at "rd"
      refine ⟨by show 4 ≤ sizeLine; decide, fun t0 nt0 => ?_⟩
      have b0 : Adv [] H2 (upd H2 t0 (.tup [.str "and left", .str "or left", .str "if left", .str "box left"])) := Adv.new nt0
      have ht0 : (upd H2 t0 (.tup [.str "and left", .str "or left", .str "if left", .str "box left"])) t0 = some (.tup [.str "and left", .str "or left", .str "if left", .str "box left"]) := upd_same
      generalize (upd H2 t0 (.tup [.str "and left", .str "or left", .str "if left", .str "box left"])) = H3 at b0 ht0
      refine ⟨t0, _, rfl, .inr (SqT.of ht0), rfl, rfl, ?_⟩
      refine ⟨_, rfl, iteY (by decide) ?_⟩
      have sqn3 := SqT.adv b0 sqn
      walk_at "rd"
      refine rd_ixT sqn3 (atI_nat (j := 0) (wdN_at _)) ?_
      walk_at "rd"
      refine ⟨_, _, rfl, rfl, wd_len _ _ (by decide +kernel), ?_⟩
      walk_at "rd"
      rw [wd_left .boxL _ rfl]
      refine iteB (fun e => ?_) (fun e => ?_)
      · have e1 : fitsK .boxL (ndA ns mn) = false := by simpa using e
        walk_at "rd"
        exact q0 (e0 (.inl e1)) _ (a02.trans b0)
      · have e1 : fitsK .boxL (ndA ns mn) = true := by simpa using e
        walk_at "rd"
        have hL3 := b0.same _ _ hL
        have hR3 := b0.same _ _ hR
        refine ⟨L, _, rfl, .inl (SqL.of hL3), rfl, flat_ints _, ?_⟩
        rw [inV_ints, if_pos rfl]
        refine ⟨_, rfl, iteB (fun e2 => ?_) (fun e2 => ?_)⟩
        · walk_at "rd"
          exact q0 (e0 (.inr (.inl (by simpa using e2)))) _ (a02.trans b0)
        · have e3 : (le.any fun x => decide ((x : Int) = (mn : Int))) = true := by simpa using e2
          walk_at "rd"
          refine iteB (fun es => ?_) (fun es => ?_)
          · have el : ¬ lg = "s4" := by simpa using es
            walk_at "rd"
            exact q0 (e0 (.inr (.inr el))) _ (a02.trans b0)
          · have el : lg = "s4" := by simpa using es
            have ea : askB lg ns th ⟨le, ri, .boxL, pr, (mn : Nat)⟩ = true := by rw [ask_left rfl (fun _ => el), e1, e3]; rfl
            obtain ⟨j, en⟩ : ∃ j, ndA ns mn = .box j := by
              cases k : ndA ns mn with
              | box j => exact ⟨j, rfl⟩
              | _ => rw [k] at e1; cases e1
            have q1' : ∀ (x : V) (H' : Hp), Is M H' (.list [sidesL (le ++ [j], ri ++ [])]) x → Adv [] H H' → Q x H' := by
              have := q1 ea
              have et : toldF lg ns ⟨le, ri, .boxL, pr, (mn : Nat)⟩ = [(le ++ (ndA ns mn).parts, ri ++ [])] := rfl
              rw [et, en] at this
              exact this
            rw [List.append_nil] at q1'
            rw [en] at sqn3
            have sqn4 : SqT K H3 nd' [.str "box", .int (j : Nat)] := sqn3
            have c := b0
            clear q0 q1 hL hR sqn sqn3 ht0 b0
            walk_at "rd"
            refine ⟨by show 1 ≤ sizeLine; decide, fun D1 nD1 => ?_⟩
            have b : Adv [] H3 (upd H3 D1 (.lst [.int (j : Nat)])) := Adv.new nD1
            have MD1 : D1 ∉ M := fun z => al2 D1 z (c.free (by simp) nD1)
            have hD1 : (upd H3 D1 (.lst [.int (j : Nat)])) D1 = some (.lst [.int (j : Nat)]) := upd_same
            replace hL3 := b.same _ _ hL3
            replace hR3 := b.same _ _ hR3
            replace sqn4 := SqT.adv b sqn4
            replace c := c.trans b
            generalize (upd H3 D1 (.lst [.int (j : Nat)])) = G1 at b hD1 hL3 hR3 c sqn4
            clear b
            refine rd_cat hL3 hD1 (by rw [nVl_len, sizeLine_eq]; show _ + 1 ≤ _; omega) fun D2 nD2 => ?_
            have b : Adv [] G1 (upd G1 D2 (.lst (nVl le ++ [.int (j : Nat)]))) := Adv.new nD2
            have MD2 : D2 ∉ M := fun z => al2 D2 z (c.free (by simp) nD2)
            have hD2 : (upd G1 D2 (.lst (nVl le ++ [.int (j : Nat)]))) D2 = some (.lst (nVl le ++ [.int (j : Nat)])) := upd_same
            replace hL3 := b.same _ _ hL3
            replace hR3 := b.same _ _ hR3
            replace hD1 := b.same _ _ hD1
            replace sqn4 := SqT.adv b sqn4
            replace c := c.trans b
            generalize (upd G1 D2 (.lst (nVl le ++ [.int (j : Nat)]))) = G2 at b hD2 hL3 hR3 hD1 c sqn4
            clear b
            walk_at "rd"
            refine ⟨by show 2 ≤ sizeLine; decide, fun t nt => ?_⟩
            have b : Adv [] G2 (upd G2 t (.tup [.ref D2, .ref R])) := Adv.new nt
            have Mt : t ∉ M := fun z => al2 t z (c.free (by simp) nt)
            have ht : (upd G2 t (.tup [.ref D2, .ref R])) t = some (.tup [.ref D2, .ref R]) := upd_same
            replace hL3 := b.same _ _ hL3
            replace hR3 := b.same _ _ hR3
            replace hD1 := b.same _ _ hD1
            replace hD2 := b.same _ _ hD2
            replace sqn4 := SqT.adv b sqn4
            replace c := c.trans b
            generalize (upd G2 t (.tup [.ref D2, .ref R])) = G3 at b ht hL3 hR3 hD1 hD2 c sqn4
            clear b
            walk_at "rd"
            refine ⟨by show 1 ≤ sizeLine; decide, fun D5 nD5 => ?_⟩
            have b : Adv [] G3 (upd G3 D5 (.lst [.ref t])) := Adv.new nD5
            have MD5 : D5 ∉ M := fun z => al2 D5 z (c.free (by simp) nD5)
            have hD5 : (upd G3 D5 (.lst [.ref t])) D5 = some (.lst [.ref t]) := upd_same
            replace hL3 := b.same _ _ hL3
            replace hR3 := b.same _ _ hR3
            replace hD1 := b.same _ _ hD1
            replace hD2 := b.same _ _ hD2
            replace ht := b.same _ _ ht
            replace sqn4 := SqT.adv b sqn4
            replace c := c.trans b
            generalize (upd G3 D5 (.lst [.ref t])) = G4 at b hD5 hL3 hR3 hD1 hD2 ht c sqn4
            clear b
            exact q1' _ _ (.lst hD5 MD5 (.cons (sidesL_is ht Mt hD2 (nVl_snoc _ _) MD2 hR3 rfl rM) .nil)) (a02.trans c)
    · -- andR
      obtain ⟨mn, em, hmn⟩ := ok.main (by intro z; cases z)
      have em : m = (mn : Int) := em
      subst em
      obtain ⟨nd', hnd, tn⟩ := nd_at hrs2 hmn
      refine iteN (by decide) ?_
      walk_at "rd"
      refine ⟨fun σ' H' => MidT M σ' H' lg ns ⟨le, ri, .andR, pr, (mn : Nat)⟩ ∧ Adv [] H H', ?_, fun σ' H' z => q3 Q M lg ns th ⟨le, ri, .andR, pr, (mn : Nat)⟩ _ _ z.1 (fun e H' a => q0 e H' (z.2.trans a)) (fun e x H' hx a => q1 e x H' hx (z.2.trans a))⟩
      walk_at "rd"
      refine ⟨by show 4 ≤ sizeLine; decide, fun t0 nt0 => ?_⟩
      have b0 : Adv [] H2 (upd H2 t0 (.tup [.str "and left", .str "or left", .str "if left", .str "box left"])) := Adv.new nt0
      have ht0 : (upd H2 t0 (.tup [.str "and left", .str "or left", .str "if left", .str "box left"])) t0 = some (.tup [.str "and left", .str "or left", .str "if left", .str "box left"]) := upd_same
      generalize (upd H2 t0 (.tup [.str "and left", .str "or left", .str "if left", .str "box left"])) = H3 at b0 ht0
      refine ⟨t0, _, rfl, .inr (SqT.of ht0), rfl, rfl, ?_⟩
      refine ⟨_, rfl, iteN (by decide) ?_⟩
      exact ⟨⟨⟨sh, nd', L, R, _, _, _, rs, mn, rfl, rfl, hmn, rfl, fun b hb z => al2 b hb (b0.free (by simp) z), b0.same _ _ hsh2, hrs2.adv b0.nil, b0.same _ _ hL, lM, b0.same _ _ hR, rM, tn.adv b0.nil, ok⟩⟩, a02.trans b0⟩
    · -- orR
      obtain ⟨mn, em, hmn⟩ := ok.main (by intro z; cases z)
      have em : m = (mn : Int) := em
      subst em
      obtain ⟨nd', hnd, tn⟩ := nd_at hrs2 hmn
      refine iteN (by decide) ?_
      walk_at "rd"
      refine ⟨fun σ' H' => MidT M σ' H' lg ns ⟨le, ri, .orR, pr, (mn : Nat)⟩ ∧ Adv [] H H', ?_, fun σ' H' z => q3 Q M lg ns th ⟨le, ri, .orR, pr, (mn : Nat)⟩ _ _ z.1 (fun e H' a => q0 e H' (z.2.trans a)) (fun e x H' hx a => q1 e x H' hx (z.2.trans a))⟩
      walk_at "rd"
      refine ⟨by show 4 ≤ sizeLine; decide, fun t0 nt0 => ?_⟩
      have b0 : Adv [] H2 (upd H2 t0 (.tup [.str "and left", .str "or left", .str "if left", .str "box left"])) := Adv.new nt0
      have ht0 : (upd H2 t0 (.tup [.str "and left", .str "or left", .str "if left", .str "box left"])) t0 = some (.tup [.str "and left", .str "or left", .str "if left", .str "box left"]) := upd_same
      generalize (upd H2 t0 (.tup [.str "and left", .str "or left", .str "if left", .str "box left"])) = H3 at b0 ht0
      refine ⟨t0, _, rfl, .inr (SqT.of ht0), rfl, rfl, ?_⟩
      refine ⟨_, rfl, iteN (by decide) ?_⟩
      exact ⟨⟨⟨sh, nd', L, R, _, _, _, rs, mn, rfl, rfl, hmn, rfl, fun b hb z => al2 b hb (b0.free (by simp) z), b0.same _ _ hsh2, hrs2.adv b0.nil, b0.same _ _ hL, lM, b0.same _ _ hR, rM, tn.adv b0.nil, ok⟩⟩, a02.trans b0⟩
    · -- ifR
      obtain ⟨mn, em, hmn⟩ := ok.main (by intro z; cases z)
      have em : m = (mn : Int) := em
      subst em
      obtain ⟨nd', hnd, tn⟩ := nd_at hrs2 hmn
      refine iteN (by decide) ?_
      walk_at "rd"
      refine ⟨fun σ' H' => MidT M σ' H' lg ns ⟨le, ri, .ifR, pr, (mn : Nat)⟩ ∧ Adv [] H H', ?_, fun σ' H' z => q3 Q M lg ns th ⟨le, ri, .ifR, pr, (mn : Nat)⟩ _ _ z.1 (fun e H' a => q0 e H' (z.2.trans a)) (fun e x H' hx a => q1 e x H' hx (z.2.trans a))⟩
      walk_at "rd"
      refine ⟨by show 4 ≤ sizeLine; decide, fun t0 nt0 => ?_⟩
      have b0 : Adv [] H2 (upd H2 t0 (.tup [.str "and left", .str "or left", .str "if left", .str "box left"])) := Adv.new nt0
      have ht0 : (upd H2 t0 (.tup [.str "and left", .str "or left", .str "if left", .str "box left"])) t0 = some (.tup [.str "and left", .str "or left", .str "if left", .str "box left"]) := upd_same
      generalize (upd H2 t0 (.tup [.str "and left", .str "or left", .str "if left", .str "box left"])) = H3 at b0 ht0
      refine ⟨t0, _, rfl, .inr (SqT.of ht0), rfl, rfl, ?_⟩
      refine ⟨_, rfl, iteN (by decide) ?_⟩
      exact ⟨⟨⟨sh, nd', L, R, _, _, _, rs, mn, rfl, rfl, hmn, rfl, fun b hb z => al2 b hb (b0.free (by simp) z), b0.same _ _ hsh2, hrs2.adv b0.nil, b0.same _ _ hL, lM, b0.same _ _ hR, rM, tn.adv b0.nil, ok⟩⟩, a02.trans b0⟩
    · -- box
      obtain ⟨mn, em, hmn⟩ := ok.main (by intro z; cases z)
      have em : m = (mn : Int) := em
      subst em
      obtain ⟨nd', hnd, tn⟩ := nd_at hrs2 hmn
      refine iteN (by decide) ?_
      walk_at "rd"
      refine ⟨fun σ' H' => MidT M σ' H' lg ns ⟨le, ri, .box, pr, (mn : Nat)⟩ ∧ Adv [] H H', ?_, fun σ' H' z => q3 Q M lg ns th ⟨le, ri, .box, pr, (mn : Nat)⟩ _ _ z.1 (fun e H' a => q0 e H' (z.2.trans a)) (fun e x H' hx a => q1 e x H' hx (z.2.trans a))⟩
      walk_at "rd"
      refine ⟨by show 4 ≤ sizeLine; decide, fun t0 nt0 => ?_⟩
      have b0 : Adv [] H2 (upd H2 t0 (.tup [.str "and left", .str "or left", .str "if left", .str "box left"])) := Adv.new nt0
      have ht0 : (upd H2 t0 (.tup [.str "and left", .str "or left", .str "if left", .str "box left"])) t0 = some (.tup [.str "and left", .str "or left", .str "if left", .str "box left"]) := upd_same
      generalize (upd H2 t0 (.tup [.str "and left", .str "or left", .str "if left", .str "box left"])) = H3 at b0 ht0
      refine ⟨t0, _, rfl, .inr (SqT.of ht0), rfl, rfl, ?_⟩
      refine ⟨_, rfl, iteN (by decide) ?_⟩
      exact ⟨⟨⟨sh, nd', L, R, _, _, _, rs, mn, rfl, rfl, hmn, rfl, fun b hb z => al2 b hb (b0.free (by simp) z), b0.same _ _ hsh2, hrs2.adv b0.nil, b0.same _ _ hL, lM, b0.same _ _ hR, rM, tn.adv b0.nil, ok⟩⟩, a02.trans b0⟩
end

set_option Elab.async false
set_option linter.all false
set_option maxRecDepth 100000
set_option maxHeartbeats 4000000
open PySem PySem.Spec PyProof.Rows L2 LL
open C8 (pss_cut)
section
variable [KW]
variable {P : Program} {w : World} {K : PySem.W.Frag} {mg : Str → Option Value} {base : Heap}
/-! ### _law_is_right -/
/-- the i-th premise fits into what is told -/
def fitI (lg : Str) (ns : List Nd) (ls : List Ln) (l : Ln) (i : Nat) : Bool := match ls[l.prem.getD i 0]?, (toldF lg ns l)[i]? with | some k, some p => fitB k p.1 p.2 | _, _ => false
def rightL (lg : Str) (ns : List Nd) (th : List Nat) (cuts : Bool) (ls : List Ln) (l : Ln) : Bool := !(decide (l.rule = .cut) && !cuts) && (askB lg ns th l && (List.range (toldF lg ns l).length).all (fitI lg ns ls l))
theorem told_len {lg : Str} {ns : List Nd} {th : List Nat} {l : Ln} (h : askB lg ns th l = true) : (toldF lg ns l).length = l.rule.cnt := by
  unfold toldF
  by_cases e : l.rule = .box
  · rw [if_pos e, e]; rfl
  · rw [if_neg e]; exact roomF_len h
theorem filt_len {l : List Nat} (c : Nat → Bool) (ys : Nat → V) : decide ((((List.range l.length).filter fun i => c (l.getD i 0)).map ys).length > 0) = !(l.all fun r => !c r) := by
  have e1 : (((List.range l.length).filter fun i => c (l.getD i 0)).map ys).length = (l.filter c).length := by
    have e : l.filter c = ((List.range l.length).filter (c ∘ fun i => l.getD i 0)).map (fun i => l.getD i 0) := by
      rw [← List.filter_map]
      congr 1
      refine List.ext_getElem? fun i => ?_
      rw [List.getElem?_map]
      by_cases h : i < l.length
      · rw [List.getElem?_range h, List.getElem?_eq_getElem h]
        show _ = some (l.getD i 0)
        rw [List.getD_eq_getElem?_getD, List.getElem?_eq_getElem h]; rfl
      · rw [List.getElem?_eq_none (by omega), List.getElem?_eq_none (by rw [List.length_range]; omega)]; rfl
    rw [e, List.length_map, List.length_map]
    rfl
  rw [e1, Bool.eq_iff_iff, decide_eq_true_iff]
  constructor
  · intro h
    obtain ⟨x, hx⟩ := List.exists_mem_of_length_pos h
    obtain ⟨h1, h2⟩ := List.mem_filter.mp hx
    cases z : l.all fun r => !c r with
    | false => rfl
    | true =>
      have := List.all_eq_true.mp z x h1
      rw [h2] at this
      cases this
  · intro h
    have h : (l.all fun r => !c r) = false := by simpa using h
    rw [List.all_eq_false] at h
    obtain ⟨x, h1, h2⟩ := h
    exact List.length_pos_of_mem (List.mem_filter.mpr ⟨h1, by simpa using h2⟩)
theorem filt_pos (l : List Nat) (c : Nat → Bool) : decide ((0 : Int) < ((((List.range l.length).filter fun i => !(c (l.getD i 0))).map fun i => V.int (l.getD i 0 : Nat)).length : Nat)) = !(l.all c) := by
  have := filt_len (l := l) (fun r => !c r) (fun i => V.int (l.getD i 0 : Nat))
  simp only [Bool.not_not] at this
  rw [← this]
  exact decide_eq_decide.mpr ⟨fun h => by omega, fun h => by omega⟩
structure LirP (vs : List V) (H : Hp) (Q : VK) : Prop where
  ex : ∃ (M : List Addr) (lg : Str) (sh tt lt : Addr) (rs lvs : List V) (ns : List Nd) (th : List Nat) (ls : List Ln) (l : Ln) (at_ : Nat) (cuts : Bool), vs = [.str lg, .ref sh, .ref tt, .ref lt, .int (at_ : Nat), .bl cuts] ∧ (∀ b ∈ M, H b ≠ none) ∧ H sh = some (.lst rs) ∧ IsDs M H (ns.map Nd.data) rs ∧ Tp M H tt (nVl th) ∧
    H lt = some (.lst lvs) ∧ IsDs M H (ls.map Ln.data) lvs ∧ ls[at_]? = some l ∧ LnOk ns l ∧ (∀ k ∈ ls, k.left.length ≤ 100000 ∧ k.right.length ≤ 100000) ∧ (∀ p ∈ l.prem, p < ls.length) ∧ l.prem.length = l.rule.cnt ∧ logicOk lg = true ∧ ns.Nodup ∧
    ∀ H', Adv [] H H' → Q (.bl (rightL lg ns th cuts ls l)) H'
def spLir : Sp := fun vs H Q _ => LirP vs H Q
theorem ok_law_is_right (A : All K mg w) : FnOk P w K mg base CX0 4 A.law_is_right.f A.law_is_right.fd ["logic", "sheet", "theory", "lines", "at", "cuts"] spLir := by
  refine A.law_is_right.F.ok sc_law_is_right (fun vs H Q E h => ?_) (fun cdv Ar outer s H vs Q E hr h => ?_)
  · obtain ⟨M, lg, sh, tt, lt, rs, lvs, ns, th, ls, l, at_, cuts, rfl, _⟩ := h.ex
    rfl
  · obtain ⟨M, lg, sh, tt, lt, rs, lvs, ns, th, ls, l, at_, cuts, rfl, al, hsh, hrs, htt, hlt, hls, hat, ok, hz, hp, hcnt, hlg, nd, q⟩ := h.ex
    refine ⟨_, (pss_cons (ps_set (i := 6) sc_law_is_right.nd rfl (Or.inl rfl) (pe_ix ix_list (pv 3) (pv 4) (fun _ _ => rfl)))
  (pss_cons (ps_set (i := 7) sc_law_is_right.nd rfl (Or.inr rfl) (pe_call (ok_law_told A) (hr.mono (by omega)) rfl A.law_told.m A.law_told.F.kp A.law_told.b .nil pass0 (pa_cons (pv 0) (pa_cons (pv 1) (pa_cons (pv 2) (pa_cons (pv 6) pa_nil))))))
  (pss_cons (ps_if (PW.pt (pw_or (pt_cmpR op_isN (pv 7) pe_non (nomark _)) (pw_or1 (PW.pt (pw_and (pt_cmpR op_eq (pe_ix ix_tup (pv 6) pe_int (fun _ _ => rfl)) pe_str (nomark _)) (pw_and1 (pt_not (pt_val (pv 5)))))))))
    (pss_one (ps_ret pe_bl))
    pss_nil)
  (pss_cons (ps_for PassesOwn.never rfl (pi_range1 rfl A.T.range (pa_cons (pe_callB call_len_seq (by rfl) A.T.len PySem.boot_len (pa_cons (pv 7) pa_nil)) pa_nil)) (pg_name (i := 8) sc_law_is_right.nd rfl (Or.inr rfl))
    (pss_cons (ps_par (i := 9) (j := 10) (by rfl) sc_law_is_right.nd rfl rfl (by decide) rfl rfl (pa_cons (pe_ix ix_tup (pe_ix ix_list (pv 3) (pe_ix ix_tup (pe_ix ix_tup (pv 6) pe_int (fun _ _ => rfl)) (pv 8) (fun _ _ => rfl)) (fun _ _ => rfl)) pe_int (fun _ _ => rfl)) (pa_cons (pe_ix ix_tup (pe_ix ix_list (pv 3) (pe_ix ix_tup (pe_ix ix_tup (pv 6) pe_int (fun _ _ => rfl)) (pv 8) (fun _ _ => rfl)) (fun _ _ => rfl)) pe_int (fun _ _ => rfl)) pa_nil)) (by rfl))
  (pss_one (ps_if (PW.pt (pw_or (pt_cmpR op_gt (pe_callB call_len_seq (by rfl) A.T.len PySem.boot_len (pa_cons (pe_lc (own := [("row", 11)]) (g := (gName 11)) rfl sc_law_is_right.nd (pi_tup (pv 9)) (blkOk_by (own := [("row", 11)]) (N := ["logic", "sheet", "theory", "lines", "at", "cuts", "line", "told", "k", "left", "right", "row"]) (sc := defScope s_law_is_right) (by decide +kernel)) (fun _ _ _ _ _ => pg_name (i := 11) sc_law_is_right.nd rfl (Or.inl rfl)) (fun _ _ _ _ _ => pts_one (pt_cmpR (op_notInK K rfl) (pv 11) (pe_ix (ix_tupK K rfl) (pe_ix (ix_listK K rfl) (pv 7) (pv 8) (fun _ _ => rfl)) pe_int (fun _ _ => rfl)) rfl)) (fun _ _ _ _ _ => (pv 11))) pa_nil)) pe_int (nomark _)) (pw_or1 (pt_cmpR op_gt (pe_callB call_len_seq (by rfl) A.T.len PySem.boot_len (pa_cons (pe_lc (own := [("row", 11)]) (g := (gName 11)) rfl sc_law_is_right.nd (pi_tup (pv 10)) (blkOk_by (own := [("row", 11)]) (N := ["logic", "sheet", "theory", "lines", "at", "cuts", "line", "told", "k", "left", "right", "row"]) (sc := defScope s_law_is_right) (by decide +kernel)) (fun _ _ _ _ _ => pg_name (i := 11) sc_law_is_right.nd rfl (Or.inl rfl)) (fun _ _ _ _ _ => pts_one (pt_cmpR (op_notInK K rfl) (pv 11) (pe_ix (ix_tupK K rfl) (pe_ix (ix_listK K rfl) (pv 7) (pv 8) (fun _ _ => rfl)) pe_int (fun _ _ => rfl)) rfl)) (fun _ _ _ _ _ => (pv 11))) pa_nil)) pe_int (nomark _)))))
    (pss_one (ps_ret pe_bl))
    pss_nil))))
  (pss_one (ps_ret pe_bl)))))), ?_⟩
    obtain ⟨x, hx, isx⟩ := hls.get (i := at_) (d := l.data) (by rw [List.getElem?_map, hat]; rfl)
    walk_at "rd"
    refine ⟨⟨M, lg, sh, tt, x, rs, ns, th, l, rfl, al, hsh, hrs, htt, isx, ok, hlg, nd, fun e H1 a1 => ?_, fun e y H1 hy a1 => ?_⟩⟩
    · have e1 : rightL lg ns th cuts ls l = false := by unfold rightL; rw [e, Bool.false_and, Bool.and_false]
      rw [e1] at q
      walk_at "rd"
      exact q _ a1
    · obtain ⟨T, ts, rfl, TM, hT, its⟩ := hy.lstE
      obtain ⟨t5, us, rfl, tx, ix⟩ := isx.tupE
      obtain ⟨w1, w2, w3, w4, w5, rfl, i1, i2, i3, i4, i5⟩ := IsDs.five ix
      obtain ⟨tp, up, rfl, tpp, ip⟩ := i4.tupE
      obtain rfl := nD_of ip
      obtain rfl := i3.strE
      have sq := (tx.adv a1.nil).sq (K := K) A.W
      have eR : rightL lg ns th cuts ls l = (!(decide (l.rule = .cut) && !cuts) && (List.range (toldF lg ns l).length).all (fitI lg ns ls l)) := by unfold rightL; rw [e, Bool.true_and]
      rw [eR] at q
      clear eR ix i1 i2 i3 i4 i5 ip isx hx
      have tlen := its.len
      rw [List.length_map] at tlen
      have cnt2 : l.rule.cnt ≤ 2 := by cases l.rule <;> decide
      have tl := told_len e
      walk_at "rd"
      rw [cut_str]
      refine iteB (fun ec => ?_) (fun ec => ?_)
      · rw [ec, Bool.true_and] at q
        walk_at "rd"
        refine iteB (fun ed => ?_) (fun ed => ?_)
        · rw [ed, Bool.not_true, Bool.false_and] at q
          walk_at "rd"
          exact q _ a1
        · rw [ed, Bool.not_false, Bool.true_and] at q
          walk_at "rd"
          refine ⟨by omega, by omega, ?_⟩
          refine for_range (lo := 0) (n := ((ts.length : Nat) : Int).toNat) (fun k σ' H' => ∃ y8 y9 y10, σ' = [some (.str lg), some (.ref sh), some (.ref tt), some (.ref lt), some (.int (at_ : Nat)), some (.bl cuts), some (.ref t5), some (.ref T), y8, y9, y10, none] ∧ (List.range k).all (fitI lg ns ls l) = true ∧ Adv [] H1 H')
            ⟨_, _, _, rfl, rfl, Adv.refl _ _⟩ ?_ ?_
          · rintro k σ' H' hk0 ⟨y8, y9, y10, rfl, hall, a⟩
            have hk : k < (toldF lg ns l).length := by omega
            rw [Int.zero_add]
            have hkp : k < l.prem.length := by omega
            have er' : l.prem[k]? = some l.prem[k] := List.getElem?_eq_getElem hkp
            generalize l.prem[k] = r at er'
            have ed : l.prem.getD k 0 = r := by rw [List.getD_eq_getElem?_getD, er']; rfl
            have hrl : r < ls.length := hp r (List.mem_of_getElem? er')
            have er : ls[r]? = some ls[r] := List.getElem?_eq_getElem hrl
            obtain ⟨zz1, zz2⟩ := hz _ (List.mem_of_getElem? er)
            generalize ls[r] = lr at er zz1 zz2
            have ei : (toldF lg ns l)[k]? = some (toldF lg ns l)[k] := List.getElem?_eq_getElem hk
            generalize (toldF lg ns l)[k] = pk at ei
            have ef : fitI lg ns ls l k = fitB lr pk.1 pk.2 := by unfold fitI; rw [ed, er, ei]
            have a01 := a1.trans a
            obtain ⟨xr, hxr, isr⟩ := (hls.adv a01.nil).get (i := r) (d := lr.data) (by rw [List.getElem?_map, er]; rfl)
            obtain ⟨tr, ur, rfl, txr, ixr⟩ := isr.tupE
            obtain ⟨z1, z2, z3, z4, z5, rfl, j1, j2, j3, j4, j5⟩ := IsDs.five ixr
            obtain ⟨ta, ua, rfl, tpa, ia⟩ := j1.tupE
            obtain ⟨tb, ub, rfl, tpb, ib⟩ := j2.tupE
            obtain rfl := nD_of ia
            obtain rfl := nD_of ib
            have sqr := txr.sq (K := K) A.W
            have sqa := tpa.sq (K := K) A.W
            have sqb := tpb.sq (K := K) A.W
            obtain ⟨xk, hxk, isk⟩ := (its.adv a.nil).get (i := k) (d := sidesL pk) (by rw [List.getElem?_map, ei]; rfl)
            obtain ⟨tk, uk, rfl, tpk, ik⟩ := isk.tupE
            obtain ⟨g1, g2, rfl, ik1, ik2⟩ := IsDs.two ik
            obtain ⟨d1, v1, rfl, d1M, hd1, id1⟩ := ik1.lstE
            obtain ⟨d2, v2, rfl, d2M, hd2, id2⟩ := ik2.lstE
            obtain rfl := nD_of id1
            obtain rfl := nD_of id2
            have sqk := tpk.sq (K := K) A.W
            have sqp := (tpp.adv a01.nil).sq (K := K) A.W
            have sq' := SqT.adv a sq
            have hlt' := a01.same _ _ hlt
            have hT' := a.same _ _ hT
            have hq : fitB lr pk.1 pk.2 = false → (List.range (toldF lg ns l).length).all (fitI lg ns ls l) = false := fun z => by
              rw [List.all_eq_false]
              exact ⟨k, List.mem_range.mpr hk, by rw [ef, z]; decide⟩
            clear hls its hlt hT hsh hrs htt sq hz hp
            walk_at "rd"
            have hpk : (nVl l.prem)[k]? = some (.int (r : Nat)) := by unfold nVl; rw [List.getElem?_map, er']; rfl
            refine rd_ixT sqp (atI_nat (j := k) hpk) ?_
            walk_at "rd"
            clear sqp sqr sq' hlt' hpk hxr
            walk_at "rd"
            unfold tLc iTup
            walk_at "rd"
            refine ⟨ta, rfl, ⟨_, sqa⟩, fun D nD => ?_⟩
            refine lc_filtT (K := K) (a := ta) (xs := nVl lr.left) (fun i => V.int (lr.left.getD i 0 : Nat)) (fun i => !(pk.1.any fun x => decide (x = lr.left.getD i 0))) nD sqa (by rw [nVl_len]; omega) ?_ ?_
            · intro i y H2 acc R' R0 hx aH hD r1 r0
              obtain ⟨b, hb, rfl⟩ := nVl_get hx
              have eb : lr.left.getD i 0 = b := by rw [List.getD_eq_getElem?_getD, hb]; rfl
              rw [eb] at r1 r0
              have hT2 := aH.same _ _ hT'
              have sqk2 := SqT.adv aH sqk
              have hd2' := aH.same _ _ hd1
              clear sqk hT' sqa sqb hd1 hd2
              refine ⟨rfl, ?_⟩
              walk_at "rd"
              refine ⟨d1, _, rfl, .inl (SqL.of hd2'), rfl, flat_ints _, ?_⟩
              rw [inV_ints, if_pos rfl, any_nat]
              refine ⟨_, rfl, iteB (fun e4 => ?_) (fun e4 => ?_)⟩
              · exact ⟨_, rfl, r1 e4 H2 hD aH⟩
              · exact r0 e4 H2 hD aH
            · intro H2 aH hD
              rw [nVl_len] at hD
              walk_at "rd"
              rw [filt_pos lr.left fun b => pk.1.any fun x => decide (x = b)]
              have efb : fitB lr pk.1 pk.2 = ((lr.left.all fun r => pk.1.any fun x => decide (x = r)) && (lr.right.all fun r => pk.2.any fun x => decide (x = r))) := rfl
              refine iteB (fun e4 => ?_) (fun e4 => ?_)
              · have e5 : (lr.left.all fun r => pk.1.any fun x => decide (x = r)) = false := by simpa using e4
                rw [e5, Bool.false_and] at efb
                rw [hq efb] at q
                walk_at "rd"
                exact q _ (a01.trans aH)
              · have e5 : (lr.left.all fun r => pk.1.any fun x => decide (x = r)) = true := by simpa using e4
                rw [e5, Bool.true_and] at efb
                have sqb2 := SqT.adv aH sqb
                have hT2 := aH.same _ _ hT'
                have sqk2 := SqT.adv aH sqk
                have hd22 := aH.same _ _ hd2
                have a2 := a.trans aH
                have a3 := a01.trans aH
                clear hD nD sqa sqb sqk hT' hd1 hd2 aH a
                walk_at "rd"
                refine ⟨tb, rfl, ⟨_, sqb2⟩, fun D nD => ?_⟩
                refine lc_filtT (K := K) (a := tb) (xs := nVl lr.right) (fun i => V.int (lr.right.getD i 0 : Nat)) (fun i => !(pk.2.any fun x => decide (x = lr.right.getD i 0))) nD sqb2 (by rw [nVl_len]; omega) ?_ ?_
                · intro i y H3 acc R' R0 hx aH hD r1 r0
                  obtain ⟨b, hb, rfl⟩ := nVl_get hx
                  have eb : lr.right.getD i 0 = b := by rw [List.getD_eq_getElem?_getD, hb]; rfl
                  rw [eb] at r1 r0
                  have hT3 := aH.same _ _ hT2
                  have sqk3 := SqT.adv aH sqk2
                  have hd3 := aH.same _ _ hd22
                  clear sqk2 hT2 sqb2 hd22
                  refine ⟨rfl, ?_⟩
                  walk_at "rd"
                  refine ⟨d2, _, rfl, .inl (SqL.of hd3), rfl, flat_ints _, ?_⟩
                  rw [inV_ints, if_pos rfl, any_nat]
                  refine ⟨_, rfl, iteB (fun e4 => ?_) (fun e4 => ?_)⟩
                  · exact ⟨_, rfl, r1 e4 H3 hD aH⟩
                  · exact r0 e4 H3 hD aH
                · intro H3 aH hD
                  rw [nVl_len] at hD
                  walk_at "rd"
                  rw [filt_pos lr.right fun b => pk.2.any fun x => decide (x = b)]
                  refine iteB (fun e6 => ?_) (fun e6 => ?_)
                  · have e7 : (lr.right.all fun r => pk.2.any fun x => decide (x = r)) = false := by simpa using e6
                    rw [e7] at efb
                    rw [hq efb] at q
                    walk_at "rd"
                    exact q _ (a3.trans aH)
                  · have e7 : (lr.right.all fun r => pk.2.any fun x => decide (x = r)) = true := by simpa using e6
                    rw [e7] at efb
                    walk_at "rd"
                    refine ⟨_, _, _, rfl, ?_, a2.trans aH⟩
                    rw [List.range_succ, List.all_append, hall, Bool.true_and]
                    simpa [ef] using efb
          · rintro σ' H' ⟨y8, y9, y10, rfl, hall, a⟩
            rw [show ((ts.length : Nat) : Int).toNat = (toldF lg ns l).length from by omega] at hall
            walk_at "rd"
            rw [hall] at q
            exact q _ (a1.trans a)
      · rw [ec, Bool.false_and, Bool.not_false, Bool.true_and] at q
        walk_at "rd"
        refine ⟨by omega, by omega, ?_⟩
        refine for_range (lo := 0) (n := ((ts.length : Nat) : Int).toNat) (fun k σ' H' => ∃ y8 y9 y10, σ' = [some (.str lg), some (.ref sh), some (.ref tt), some (.ref lt), some (.int (at_ : Nat)), some (.bl cuts), some (.ref t5), some (.ref T), y8, y9, y10, none] ∧ (List.range k).all (fitI lg ns ls l) = true ∧ Adv [] H1 H')
          ⟨_, _, _, rfl, rfl, Adv.refl _ _⟩ ?_ ?_
        · rintro k σ' H' hk0 ⟨y8, y9, y10, rfl, hall, a⟩
          have hk : k < (toldF lg ns l).length := by omega
          rw [Int.zero_add]
          have hkp : k < l.prem.length := by omega
          have er' : l.prem[k]? = some l.prem[k] := List.getElem?_eq_getElem hkp
          generalize l.prem[k] = r at er'
          have ed : l.prem.getD k 0 = r := by rw [List.getD_eq_getElem?_getD, er']; rfl
          have hrl : r < ls.length := hp r (List.mem_of_getElem? er')
          have er : ls[r]? = some ls[r] := List.getElem?_eq_getElem hrl
          obtain ⟨zz1, zz2⟩ := hz _ (List.mem_of_getElem? er)
          generalize ls[r] = lr at er zz1 zz2
          have ei : (toldF lg ns l)[k]? = some (toldF lg ns l)[k] := List.getElem?_eq_getElem hk
          generalize (toldF lg ns l)[k] = pk at ei
          have ef : fitI lg ns ls l k = fitB lr pk.1 pk.2 := by unfold fitI; rw [ed, er, ei]
          have a01 := a1.trans a
          obtain ⟨xr, hxr, isr⟩ := (hls.adv a01.nil).get (i := r) (d := lr.data) (by rw [List.getElem?_map, er]; rfl)
          obtain ⟨tr, ur, rfl, txr, ixr⟩ := isr.tupE
          obtain ⟨z1, z2, z3, z4, z5, rfl, j1, j2, j3, j4, j5⟩ := IsDs.five ixr
          obtain ⟨ta, ua, rfl, tpa, ia⟩ := j1.tupE
          obtain ⟨tb, ub, rfl, tpb, ib⟩ := j2.tupE
          obtain rfl := nD_of ia
          obtain rfl := nD_of ib
          have sqr := txr.sq (K := K) A.W
          have sqa := tpa.sq (K := K) A.W
          have sqb := tpb.sq (K := K) A.W
          obtain ⟨xk, hxk, isk⟩ := (its.adv a.nil).get (i := k) (d := sidesL pk) (by rw [List.getElem?_map, ei]; rfl)
          obtain ⟨tk, uk, rfl, tpk, ik⟩ := isk.tupE
          obtain ⟨g1, g2, rfl, ik1, ik2⟩ := IsDs.two ik
          obtain ⟨d1, v1, rfl, d1M, hd1, id1⟩ := ik1.lstE
          obtain ⟨d2, v2, rfl, d2M, hd2, id2⟩ := ik2.lstE
          obtain rfl := nD_of id1
          obtain rfl := nD_of id2
          have sqk := tpk.sq (K := K) A.W
          have sqp := (tpp.adv a01.nil).sq (K := K) A.W
          have sq' := SqT.adv a sq
          have hlt' := a01.same _ _ hlt
          have hT' := a.same _ _ hT
          have hq : fitB lr pk.1 pk.2 = false → (List.range (toldF lg ns l).length).all (fitI lg ns ls l) = false := fun z => by
            rw [List.all_eq_false]
            exact ⟨k, List.mem_range.mpr hk, by rw [ef, z]; decide⟩
          clear hls its hlt hT hsh hrs htt sq hz hp
          walk_at "rd"
          have hpk : (nVl l.prem)[k]? = some (.int (r : Nat)) := by unfold nVl; rw [List.getElem?_map, er']; rfl
          refine rd_ixT sqp (atI_nat (j := k) hpk) ?_
          walk_at "rd"
          clear sqp sqr sq' hlt' hpk hxr
          walk_at "rd"
          unfold tLc iTup
          walk_at "rd"
          refine ⟨ta, rfl, ⟨_, sqa⟩, fun D nD => ?_⟩
          refine lc_filtT (K := K) (a := ta) (xs := nVl lr.left) (fun i => V.int (lr.left.getD i 0 : Nat)) (fun i => !(pk.1.any fun x => decide (x = lr.left.getD i 0))) nD sqa (by rw [nVl_len]; omega) ?_ ?_
          · intro i y H2 acc R' R0 hx aH hD r1 r0
            obtain ⟨b, hb, rfl⟩ := nVl_get hx
            have eb : lr.left.getD i 0 = b := by rw [List.getD_eq_getElem?_getD, hb]; rfl
            rw [eb] at r1 r0
            have hT2 := aH.same _ _ hT'
            have sqk2 := SqT.adv aH sqk
            have hd2' := aH.same _ _ hd1
            clear sqk hT' sqa sqb hd1 hd2
            refine ⟨rfl, ?_⟩
            walk_at "rd"
            refine ⟨d1, _, rfl, .inl (SqL.of hd2'), rfl, flat_ints _, ?_⟩
            rw [inV_ints, if_pos rfl, any_nat]
            refine ⟨_, rfl, iteB (fun e4 => ?_) (fun e4 => ?_)⟩
            · exact ⟨_, rfl, r1 e4 H2 hD aH⟩
            · exact r0 e4 H2 hD aH
          · intro H2 aH hD
            rw [nVl_len] at hD
            walk_at "rd"
            rw [filt_pos lr.left fun b => pk.1.any fun x => decide (x = b)]
            have efb : fitB lr pk.1 pk.2 = ((lr.left.all fun r => pk.1.any fun x => decide (x = r)) && (lr.right.all fun r => pk.2.any fun x => decide (x = r))) := rfl
            refine iteB (fun e4 => ?_) (fun e4 => ?_)
            · have e5 : (lr.left.all fun r => pk.1.any fun x => decide (x = r)) = false := by simpa using e4
              rw [e5, Bool.false_and] at efb
              rw [hq efb] at q
              walk_at "rd"
              exact q _ (a01.trans aH)
            · have e5 : (lr.left.all fun r => pk.1.any fun x => decide (x = r)) = true := by simpa using e4
              rw [e5, Bool.true_and] at efb
              have sqb2 := SqT.adv aH sqb
              have hT2 := aH.same _ _ hT'
              have sqk2 := SqT.adv aH sqk
              have hd22 := aH.same _ _ hd2
              have a2 := a.trans aH
              have a3 := a01.trans aH
              clear hD nD sqa sqb sqk hT' hd1 hd2 aH a
              walk_at "rd"
              refine ⟨tb, rfl, ⟨_, sqb2⟩, fun D nD => ?_⟩
              refine lc_filtT (K := K) (a := tb) (xs := nVl lr.right) (fun i => V.int (lr.right.getD i 0 : Nat)) (fun i => !(pk.2.any fun x => decide (x = lr.right.getD i 0))) nD sqb2 (by rw [nVl_len]; omega) ?_ ?_
              · intro i y H3 acc R' R0 hx aH hD r1 r0
                obtain ⟨b, hb, rfl⟩ := nVl_get hx
                have eb : lr.right.getD i 0 = b := by rw [List.getD_eq_getElem?_getD, hb]; rfl
                rw [eb] at r1 r0
                have hT3 := aH.same _ _ hT2
                have sqk3 := SqT.adv aH sqk2
                have hd3 := aH.same _ _ hd22
                clear sqk2 hT2 sqb2 hd22
                refine ⟨rfl, ?_⟩
                walk_at "rd"
                refine ⟨d2, _, rfl, .inl (SqL.of hd3), rfl, flat_ints _, ?_⟩
                rw [inV_ints, if_pos rfl, any_nat]
                refine ⟨_, rfl, iteB (fun e4 => ?_) (fun e4 => ?_)⟩
                · exact ⟨_, rfl, r1 e4 H3 hD aH⟩
                · exact r0 e4 H3 hD aH
              · intro H3 aH hD
                rw [nVl_len] at hD
                walk_at "rd"
                rw [filt_pos lr.right fun b => pk.2.any fun x => decide (x = b)]
                refine iteB (fun e6 => ?_) (fun e6 => ?_)
                · have e7 : (lr.right.all fun r => pk.2.any fun x => decide (x = r)) = false := by simpa using e6
                  rw [e7] at efb
                  rw [hq efb] at q
                  walk_at "rd"
                  exact q _ (a3.trans aH)
                · have e7 : (lr.right.all fun r => pk.2.any fun x => decide (x = r)) = true := by simpa using e6
                  rw [e7] at efb
                  walk_at "rd"
                  refine ⟨_, _, _, rfl, ?_, a2.trans aH⟩
                  rw [List.range_succ, List.all_append, hall, Bool.true_and]
                  simpa [ef] using efb
        · rintro σ' H' ⟨y8, y9, y10, rfl, hall, a⟩
          rw [show ((ts.length : Nat) : Int).toNat = (toldF lg ns l).length from by omega] at hall
          walk_at "rd"
          rw [hall] at q
          exact q _ (a1.trans a)
end
end K12

set_option Elab.async false
set_option linter.all false
set_option maxRecDepth 120000
set_option maxHeartbeats 1200000
/-! the plain law: the first lines are right, the last one stands iff it is told so -/
namespace K12
open PySem PySem.Spec PyProof.Rows L2 LL
section
variable [KW]
theorem any_mem {a : List Nat} {r : Nat} : (a.any fun x => decide (x = r)) = decide (r ∈ a) := by
  rw [Bool.eq_iff_iff, List.any_eq_true, decide_eq_true_iff]
  exact ⟨fun ⟨x, hx, e⟩ => by rw [← of_decide_eq_true e]; exact hx, fun h => ⟨r, h, decide_eq_true rfl⟩⟩
theorem any_cong {a a' : List Nat} (h : ∀ x, x ∈ a ↔ x ∈ a') (r : Nat) : (a.any fun x => decide (x = r)) = a'.any fun x => decide (x = r) := by
  rw [any_mem, any_mem]
  exact decide_eq_decide.mpr (h r)
theorem fitB_mem {k : Ln} {a a' b b' : List Nat} (h1 : ∀ x, x ∈ a ↔ x ∈ a') (h2 : ∀ x, x ∈ b ↔ x ∈ b') : fitB k a b = fitB k a' b' := by
  unfold fitB
  congr 1
  · congr 1; funext r; exact any_cong h1 r
  · congr 1; funext r; exact any_cong h2 r
theorem isBx_at {n : Nd} (h : isBx n = true) : ∃ j, n = .box j := by
  cases n with
  | box j => exact ⟨j, rfl⟩
  | _ => cases h
theorem box_mem {lg : Str} {ns : List Nd} {le : List Nat} {m : Nat} (hb : logicB lg = true) (x : Nat) : x ∈ boxRoom lg ns le m ↔ x ∈ bxL lg ns le m := by
  have hin : x ∈ inB ns le ↔ ∃ r ∈ le, ndA ns r = .box x := by
    unfold inB
    rw [List.mem_map]
    constructor
    · rintro ⟨r, hr, e⟩
      obtain ⟨h1, h2⟩ := List.mem_filter.mp hr
      obtain ⟨j, ej⟩ := isBx_at h2
      rw [ej] at e
      exact ⟨r, h1, by rw [ej]; exact congrArg _ e⟩
    · rintro ⟨r, hr, e⟩
      exact ⟨r, List.mem_filter.mpr ⟨hr, by rw [e]; rfl⟩, by rw [e]; rfl⟩
  have hfi : x ∈ (le.filter fun r => isBx (ndA ns r)) ↔ x ∈ le ∧ ∃ j, ndA ns x = .box j := by
    rw [List.mem_filter]
    exact ⟨fun h => ⟨h.1, isBx_at h.2⟩, fun ⟨h, j, e⟩ => ⟨h, by rw [e]; rfl⟩⟩
  have hro : x ∈ boxRoom lg ns le m ↔ (¬ lg = "s4" ∧ ∃ r ∈ le, ndA ns r = .box x) ∨ (¬ lg = "k" ∧ x ∈ le ∧ ∃ j, ndA ns x = .box j) ∨ (lg = "gl" ∧ x = m) := by
    unfold boxRoom
    rw [List.mem_append, List.mem_flatMap, ← or_assoc]
    refine or_congr ?_ ?_
    · constructor
      · rintro ⟨r, hr, h⟩
        cases e : ndA ns r with
        | box j =>
          rw [e] at h
          rcases List.mem_append.mp h with h | h
          · by_cases z : lg = "s4"
            · rw [if_pos z] at h; cases h
            · rw [if_neg z] at h
              exact .inl ⟨z, r, hr, by rw [List.mem_singleton.mp h]; exact e⟩
          · by_cases z : lg = "k"
            · rw [if_pos z] at h; cases h
            · rw [if_neg z] at h
              obtain rfl := List.mem_singleton.mp h
              exact .inr ⟨z, hr, j, e⟩
        | _ => rw [e] at h; cases h
      · rintro (⟨z, r, hr, e⟩ | ⟨z, hx, j, e⟩)
        · exact ⟨r, hr, by rw [e]; show x ∈ _ ++ _; rw [if_neg z]; simp⟩
        · exact ⟨x, hx, by rw [e]; show x ∈ _ ++ _; rw [if_neg z]; simp⟩
    · by_cases z : lg = "gl"
      · rw [if_pos z]; simp [z]
      · rw [if_neg z]; simp [z]
  rw [hro]
  unfold bxL
  by_cases zk : lg = "k"
  · subst zk
    rw [if_pos rfl, hin]
    have d1 : ¬ ("k" : Str) = "s4" := by decide
    have d2 : ¬ ("k" : Str) = "gl" := by decide
    simp [d1, d2]
  · rw [if_neg zk]
    by_cases zs : lg = "s4"
    · subst zs
      rw [if_pos rfl, hfi]
      have d2 : ¬ ("s4" : Str) = "gl" := by decide
      simp [zk, d2]
    · have zg : lg = "gl" := by
        unfold logicB at hb
        rw [Bool.or_eq_true, Bool.or_eq_true, decide_eq_true_iff, decide_eq_true_iff, decide_eq_true_iff] at hb
        rcases hb with (h | h) | h
        · exact absurd h zk
        · exact absurd h zs
        · exact h
      rw [if_neg zs, List.mem_append, List.mem_append, hin, hfi, List.mem_singleton]
      have e1 : (¬ lg = "s4") ↔ True := iff_true_intro zs
      have e2 : (¬ lg = "k") ↔ True := iff_true_intro zk
      have e3 : (lg = "gl") ↔ True := iff_true_intro zg
      rw [e1, e2, e3, true_and, true_and, true_and, or_assoc]
theorem ask_logB {lg : Str} {ns : List Nd} {th : List Nat} {l : Ln} (h : askB lg ns th l = true) (hb : l.rule = .box) : logicB lg = true := by
  cases z : logicB lg with
  | true => rfl
  | false =>
    obtain ⟨le, ri, r, pr, m⟩ := l
    cases hb
    rw [ask_box z] at h
    cases h
theorem right_same {lg : Str} {ns : List Nd} {th : List Nat} {cuts : Bool} {ls : List Ln} {l : Ln} (hc : l.prem.length = l.rule.cnt) : rightL lg ns th cuts ls l = goodB lg ns th cuts ls l := by
  unfold rightL goodB
  congr 1
  unfold rightB
  cases ha : askB lg ns th l with
  | false => rfl
  | true =>
    rw [Bool.true_and, Bool.true_and]
    refine Eq.trans ?_ (zip_all (ls := ls) l.prem (roomF lg ns l) (by rw [roomF_len ha, hc])).symm
    rw [told_len ha, hc]
    congr 1
    funext i
    unfold fitI
    by_cases hb : l.rule = .box
    · have e1 : toldF lg ns l = [(bxL lg ns l.left l.main.toNat, (ndA ns l.main.toNat).parts)] := by unfold toldF; rw [if_pos hb]
      have e2 : roomF lg ns l = [(boxRoom lg ns l.left l.main.toNat, (ndA ns l.main.toNat).parts)] := by unfold roomF; rw [if_pos hb]
      rw [e1, e2]
      cases ls[l.prem.getD i 0]? with
      | none => rfl
      | some k =>
        cases i with
        | zero => exact fitB_mem (fun x => (box_mem (ask_logB ha hb) x).symm) (fun x => Iff.rfl)
        | succ i => rfl
    · have e1 : toldF lg ns l = roomF lg ns l := by unfold toldF; rw [if_neg hb]
      rw [e1]
      all_goals (cases ls[l.prem.getD i 0]? <;> first | rfl | (cases (roomF lg ns l)[i]? <;> rfl))
theorem place_all {lg : Str} {ns : List Nd} {th : List Nat} {cuts : Bool} {ls : List Ln} : ∀ (ks : List Ln) (i : Nat), (placeF lg ns th cuts ls i ks).isNone = ks.all (goodB lg ns th cuts ls)
  | [], _ => rfl
  | k :: ks, i => by
    unfold placeF
    rw [List.all_cons]
    cases h : goodB lg ns th cuts ls k with
    | true => rw [if_pos rfl, Bool.true_and]; exact place_all ks (i + 1)
    | false => rw [if_neg (by decide), Bool.false_and]; rfl
/-! ### rows -/
/-- rising rows below n -/
structure RwO (n : Nat) (l : List Nat) : Prop where
  asc : l.Pairwise (· < ·)
  lt : ∀ r ∈ l, r < n
  z : l.length ≤ 2000
theorem ris_of {l : List Int} (h : l.Pairwise (· < ·)) : risB l = true := by
  unfold risB
  rw [List.all_eq_true]
  intro i hi
  have hi := List.mem_range.mp hi
  rw [decide_eq_true_iff, List.getD_eq_getElem?_getD, List.getD_eq_getElem?_getD, List.getElem?_eq_getElem (by omega : i < l.length), List.getElem?_eq_getElem (by omega : i + 1 < l.length)]
  exact (List.pairwise_iff_getElem.mp h) i (i + 1) (by omega) (by omega) (by omega)
theorem RwO.rows {n : Nat} {l : List Nat} (h : RwO n l) : rowsB (n : Nat) (.tuple (nD l)) = true := by
  show ((nD l).all (isNum 0 ((n : Int) - 1)) && risB ((nD l).map LL.intD)) = true
  rw [nD_int, Bool.and_eq_true]
  constructor
  · unfold nD
    rw [List.all_map, List.all_eq_true]
    intro r hr
    have := h.lt r hr
    exact isNum_int.mpr ⟨by omega, by omega⟩
  · refine ris_of ?_
    rw [List.pairwise_map]
    exact h.asc.imp fun h => by omega
theorem RwO.srt {n : Nat} {l : List Nat} (h : ∀ r ∈ l, r < n) (z : l.length ≤ 2000) : RwO n (srtN l) := ⟨srtN_asc l, fun r hr => h r (srtN_mem.mp hr), Nat.le_trans (srtN_len l) z⟩
theorem RwO.nil {n : Nat} : RwO n [] := ⟨.nil, by simp, by simp⟩
theorem RwO.one {n r : Nat} (h : r < n) : RwO n [r] := ⟨List.pairwise_singleton _ _, by simpa using h, by simp⟩
/-! ### the lines of a drawn paper -/
def line0 : Ln := ⟨[0], [], .no, [], -1⟩
/-- a line that the law writes ahead of the last one -/
structure FstL (bx : Bool) (n : Nat) (k : Ln) : Prop where
  left : RwO n k.left
  right : RwO n k.right
  kind : if bx = true then k.rule = .giv ∧ k.prem = [0] ∧ k.main = 0 else k.rule = .no ∧ k.prem = [] ∧ k.main = -1 ∧ 0 ∈ k.left
theorem ask_no {lg : Str} {ns : List Nd} {th : List Nat} {k : Ln} (h0 : ns[0]? = some .no) (hr : k.rule = .no) (hl : 0 ∈ k.left) : askB lg ns th k = true := by
  obtain ⟨le, ri, r, pr, m⟩ := k
  cases hr
  show (le.any fun x => decide (ndA ns x = .no)) = true
  exact List.any_eq_true.mpr ⟨0, hl, by unfold ndA; rw [h0]; rfl⟩
theorem good_no {lg : Str} {ns : List Nd} {th : List Nat} {c : Bool} {ls : List Ln} {k : Ln} (h0 : ns[0]? = some .no) (hr : k.rule = .no) (hp : k.prem = []) (hl : 0 ∈ k.left) : goodB lg ns th c ls k = true := by
  unfold goodB rightB
  rw [ask_no h0 hr hl, hp, hr]
  cases c <;> rfl
theorem good_giv {lg : Str} {ns : List Nd} {th : List Nat} {c : Bool} {ls : List Ln} {k : Ln} (h0 : ls[0]? = some line0) (ht : 0 ∈ th) (hr : k.rule = .giv) (hp : k.prem = [0]) (hm : k.main = 0) : goodB lg ns th c ls k = true := by
  obtain ⟨le, ri, r, pr, m⟩ := k
  obtain rfl : r = .giv := hr
  obtain rfl : pr = [0] := hp
  obtain rfl : m = 0 := hm
  unfold goodB rightB
  have ha : askB lg ns th ⟨le, ri, .giv, [0], 0⟩ = true := by
    show (th.any fun x => decide ((x : Int) = 0)) = true
    exact List.any_eq_true.mpr ⟨0, ht, by decide⟩
  have e2 : roomF lg ns ⟨le, ri, .giv, [0], 0⟩ = [(le ++ [0], ri ++ [])] := rfl
  rw [ha, e2]
  show (!(false && !c) && (true && (((match ls[0]? with | some k => fitB k (le ++ [0]) (ri ++ []) | none => false)) && true))) = true
  rw [h0]
  have e3 : fitB line0 (le ++ [0]) (ri ++ []) = true := by
    unfold fitB line0
    simp
  show (!(false && !c) && (true && ((fitB line0 (le ++ [0]) (ri ++ [])) && true))) = true
  rw [e3]
  cases c <;> rfl
/-- what a drawn paper is like -/
structure Sgl (lg : Str) (r : Rl) (ns : List Nd) (th le ri : List Nat) (ls : List Ln) (l : Ln) : Prop where
  ok : okSheet (logicB lg) ns
  nl : ns.length ≤ 1000
  cm : claimM 5000 (logicB lg) (clD ns th le ri) = none
  good : ∀ c, ∀ k ∈ ls, goodB lg ns th c (ls ++ [l]) k = true
  wf : ∀ (i : Nat) (k : Ln), (ls ++ [l])[i]? = some k → WfL ns.length i k ∧ LnOk ns k ∧ sz k.data ≤ 12000
  left : l.left = le
  right : l.right = ri
  rule : l.rule = r
  zc : sz (clD ns th le ri) ≤ 100000
  zp : sz (ppD ns (ls ++ [l])) ≤ 100000
theorem Sgl.due {lg : Str} {r : Rl} {ns : List Nd} {th le ri : List Nat} {ls : List Ln} {l : Ln} (S : Sgl lg r ns th le ri ls l) (cuts : Bool) (hc : cuts = false → r = .cut) :
    (placeF lg ns th cuts (ls ++ [l]) 0 (ls ++ [l])).isNone = (cuts && rightL lg ns th true (ls ++ [l]) l) := by
  have w := (S.wf ls.length l (by simp)).1
  rw [place_all, List.all_append, List.all_eq_true.mpr (S.good cuts), Bool.true_and, right_same w.cnt]
  show (goodB lg ns th cuts (ls ++ [l]) l && true) = _
  rw [Bool.and_true]
  cases cuts with
  | true => rfl
  | false =>
    rw [Bool.false_and]
    unfold goodB
    rw [S.rule, hc rfl]
    rfl
theorem sz_str1 (x : Str) : sz (.str x) = 1 := by unfold sz; rfl
theorem sz_int1 (x : Int) : sz (.int x) = 1 := by unfold sz; rfl
theorem ln_sz (k : Ln) : sz k.data = 6 + k.left.length + k.right.length + k.prem.length := by
  unfold Ln.data
  rw [sz_tup, szL_cons, szL_cons, szL_cons, szL_cons, szL_cons, szL_nil, sz_tup, sz_tup, sz_tup, nD_sz, nD_sz, nD_sz, sz_str1, sz_int1]
  omega
theorem wf_of {n i : Nat} {k : Ln} {ns : List Nd} (hn : n = ns.length) (h1 : RwO n k.left) (h2 : RwO n k.right) (hc : k.prem.length = k.rule.cnt) (hp : ∀ p ∈ k.prem, p < i) (h0 : k.rule = .no → k.main = -1) (h3 : k.rule ≠ .no → ∃ m : Nat, k.main = m ∧ m < n) : WfL ns.length i k ∧ LnOk ns k ∧ sz k.data ≤ 12000 := by
  subst hn
  have z1 := h1.z
  have z2 := h2.z
  have z3 : k.rule.cnt ≤ 2 := by cases k.rule <;> decide
  exact ⟨⟨h1.rows, h2.rows, hc, hp, h0, h3⟩, ⟨h1.lt, h2.lt, h3, by omega, by omega⟩, by rw [ln_sz]; omega⟩
theorem sgl_of {lg : Str} {ns : List Nd} {th : List Nat} {ks : List Ln} {l : Ln} (ok : okSheet (logicB lg) ns) (h0 : ns[0]? = some .no) (nl : ns.length ≤ 1000) (hth : RwO ns.length th) (ht : if logicB lg = true then 0 ∈ th else th = []) (hl : RwO ns.length l.left) (hr : RwO ns.length l.right)
    (hk : ∀ k ∈ ks, FstL (logicB lg) ns.length k) (hkl : ks.length = l.rule.cnt) (hc : l.prem.length = l.rule.cnt) (hp : ∀ p ∈ l.prem, p < ks.length + 1) (hn : l.rule = .no → l.main = -1) (hm : l.rule ≠ .no → ∃ m : Nat, l.main = m ∧ m < ns.length) :
    Sgl lg l.rule ns th l.left l.right (line0 :: ks) l := by
  have npos : 0 < ns.length := (List.getElem?_eq_some_iff.mp h0).1
  have z3 : l.rule.cnt ≤ 2 := by cases l.rule <;> decide
  have zt := hth.z
  have zl := hl.z
  have zr := hr.z
  have wfk : ∀ k ∈ ks, ∀ i, 1 ≤ i → WfL ns.length i k ∧ LnOk ns k ∧ sz k.data ≤ 12000 := fun k hk' i hi => by
    have F := hk k hk'
    have kd := F.kind
    by_cases b : logicB lg = true
    · rw [if_pos b] at kd
      obtain ⟨e1, e2, e3⟩ := kd
      exact wf_of rfl F.left F.right (by rw [e1, e2]; rfl) (by rw [e2]; simp; omega) (by rw [e1]; intro z; cases z) (fun _ => ⟨0, e3, npos⟩)
    · rw [if_neg b] at kd
      obtain ⟨e1, e2, e3, _⟩ := kd
      exact wf_of rfl F.left F.right (by rw [e1, e2]; rfl) (by rw [e2]; simp) (fun _ => e3) (by rw [e1]; intro z; exact absurd rfl z)
  have wf : ∀ (i : Nat) (k : Ln), (line0 :: ks ++ [l])[i]? = some k → WfL ns.length i k ∧ LnOk ns k ∧ sz k.data ≤ 12000 := fun i k e => by
    cases i with
    | zero =>
      have e : line0 = k := Option.some.inj e
      subst e
      exact wf_of rfl (RwO.one npos) RwO.nil rfl (by intro p hp; cases hp) (fun _ => rfl) (fun z => absurd rfl z)
    | succ i =>
      have e : (ks ++ [l])[i]? = some k := e
      by_cases hi : i < ks.length
      · rw [List.getElem?_append_left hi] at e
        exact wfk k (List.mem_of_getElem? e) (i + 1) (by omega)
      · have hi2 : i < (ks ++ [l]).length := (List.getElem?_eq_some_iff.mp e).1
        rw [List.length_append, List.length_singleton] at hi2
        have ei : i = ks.length := by omega
        subst ei
        rw [List.getElem?_concat_length] at e
        obtain rfl := Option.some.inj e
        exact wf_of rfl hl hr hc hp hn hm
  refine ⟨ok, nl, ?_, fun c k hk' => ?_, wf, rfl, rfl, rfl, ?_, ?_⟩
  · have ew := wrongD_ok (most := 5000) ok (by omega)
    have el : lenD (.list (ns.map Nd.data)) = ns.length := by show (ns.map Nd.data).length = _; rw [List.length_map]
    unfold clD
    rw [cw_next ew, el, hth.rows, hl.rows, hr.rows]
    have eb : (logicB lg || emptyT (.tuple (nD th))) = true := by
      by_cases b : logicB lg = true
      · rw [b, Bool.true_or]
      · rw [if_neg b] at ht
        rw [ht, Bool.or_eq_true]
        exact .inr rfl
    rw [eb]
    rfl
  · rcases List.mem_cons.mp hk' with e | hk'
    · subst e
      exact good_no h0 rfl rfl (by simp [line0])
    · have F := hk k hk'
      have kd := F.kind
      by_cases b : logicB lg = true
      · rw [if_pos b] at kd ht
        exact good_giv rfl ht kd.1 kd.2.1 kd.2.2
      · rw [if_neg b] at kd
        exact good_no h0 kd.1 kd.2.1 kd.2.2.2
  · unfold clD
    have := nds_sz ns
    rw [sz_tup, szL_cons, szL_cons, szL_cons, szL_cons, szL_nil, sz_lst, sz_tup, sz_tup, sz_tup, nD_sz, nD_sz, nD_sz]
    omega
  · have h4 : ∀ (qs : List Ln), (∀ k ∈ qs, sz k.data ≤ 12000) → szL (qs.map Ln.data) ≤ 12000 * qs.length := fun qs => by
      induction qs with
      | nil => intro _; rw [List.map_nil, szL_nil]; exact Nat.zero_le _
      | cons k qs ih =>
        intro h
        rw [List.map_cons, szL_cons, List.length_cons]
        have := h k List.mem_cons_self
        have := ih fun k hk => h k (List.mem_cons_of_mem _ hk)
        omega
    have h5 := h4 (line0 :: ks ++ [l]) fun k hk => by
      obtain ⟨i, hi⟩ := List.getElem?_of_mem hk
      exact (wf i k hi).2.2
    have h6 : (line0 :: ks ++ [l]).length ≤ 4 := by simp; omega
    have := nds_sz ns
    unfold ppD
    rw [sz_tup, szL_cons, szL_cons, szL_nil, sz_lst, sz_lst]
    omega
end

set_option Elab.async false
set_option linter.all false
set_option maxRecDepth 100000
set_option maxHeartbeats 4000000
open PySem PySem.Spec PyProof.Rows L2 LL
open C8 (pss_cut)
local macro_rules | `(tactic| walk_at "ne") => `(tactic| first | assumption | (apply Ne.symm; assumption) | exact ne_of_none (by walk_at "hp") (by assumption) | exact (ne_of_none (by walk_at "hp") (by assumption)).symm)
local macro_rules | `(tactic| walk_at "nm") => `(tactic| first | assumption | exact notin0 | exact notin1 (by walk_at "ne") | exact notin2 (by walk_at "ne") (by walk_at "ne"))
local macro_rules | `(tactic| walk_at "hp") => `(tactic| first | assumption | exact upd_same | (refine Eq.trans (upd_ne ?ne) ?hh; (case hh => walk_at "hp"); (case ne => walk_at "ne")) | (refine Adv.get' (by assumption) ?hh ?nn; (case hh => walk_at "hp"); (case nn => walk_at "nm")))
local macro_rules | `(tactic| walk_at "tp") => `(tactic| first | assumption | exact Tp.adv (by walk_at "tp") (by assumption) | exact Tp.adv (by walk_at "tp") (Adv.nil (by assumption)))
local macro_rules | `(tactic| walk_at "sq") => `(tactic| first | assumption | exact Tp.sq (by assumption) (by walk_at "tp") | exact SqT.of (by walk_at "hp"))
local macro_rules | `(tactic| walk_at "at") => `(tactic| first | exact atI_nat (j := 0) rfl | exact atI_nat (j := 1) rfl | exact atI_nat (j := 2) rfl | exact atI_nat (j := 3) rfl | exact atI_nat (by assumption) | (rw [Int.zero_add]; exact atI_nat (by assumption)))
local macro_rules | `(tactic| walk_at "bb") => `(tactic| first | assumption | decide | exact rfl)
local macro_rules | `(tactic| walk_at "ci") => `(tactic| first | omega | (dsimp only; omega) | (unfold CDiv; omega) | (unfold CMul; omega))
local macro_rules | `(tactic| walk_at "rd1") => `(tactic| first
  | with_reducible refine rd_c ?_
  | ((with_reducible refine' rd_var ?rh ?_); (case rh => exact rfl))
  | with_reducible refine rd_op ?_
  | with_reducible refine rd_seq ?_
  | with_reducible refine rd_asg ?_
  | with_reducible refine rd_gname ?_
  | with_reducible refine rd_ifS ?_
  | with_reducible refine rd_test ?_
  | with_reducible refine rd_tB ?_
  | with_reducible refine rd_blP ?_
  | ((with_reducible refine' iteY ?rh ?_); (case rh => walk_at "bb"))
  | ((with_reducible refine' iteN ?rh ?_); (case rh => walk_at "bb"))
  | with_reducible refine rd_ret ?_
  | with_reducible refine rd_nx ?_
  | ((with_reducible refine' rd_eq ?rh ?_); (case rh => exact rfl))
  | ((with_reducible refine' rd_ne ?rh ?_); (case rh => exact rfl))
  | with_reducible refine rd_add ?_
  | with_reducible refine rd_sub ?_
  | with_reducible refine rd_i0 ?_
  | with_reducible refine rd_and ?_
  | with_reducible refine rd_or ?_
  | with_reducible refine rd_not ?_
  | with_reducible refine rd_andV ?_
  | with_reducible refine rd_orV ?_
  | with_reducible refine rd_notV ?_
  | with_reducible refine rd_ifE ?_
  | with_reducible refine rd_isN ?_
  | with_reducible refine rd_notN ?_
  | with_reducible refine rd_cons ?_
  | with_reducible refine rd_nil ?_
  | with_reducible refine rd_tup ?_
  | with_reducible refine rd_lst ?_
  | with_reducible refine rd_call ?_
  | with_reducible refine rd_cb ?_
  | with_reducible refine rd_meth ?_
  | with_reducible refine rd_callS ?_
  | with_reducible refine rd_make ?_
  | with_reducible refine rd_rfl ?_
  | with_reducible refine rd_fld ?_
  | with_reducible refine rd_drop ?_
  | with_reducible refine rd_gsub ?_
  | with_reducible refine rd_gcons ?_
  | with_reducible refine rd_gnil ?_
  | with_reducible refine rd_par ?_
  | with_reducible refine rd_two ?_
  | with_reducible refine rd_par3 ?_
  | with_reducible refine rd_three ?_
  | with_reducible refine rd_int1 ?_
  | ((with_reducible refine' rd_i ?rh ?_); (case rh => walk_at "ci"))
  | with_reducible refine rd_part ?_
  | with_reducible refine rd_nopart ?_
  | with_reducible refine rd_int ?_
  | with_reducible refine rd_sl ?_
  | with_reducible refine rd_bm ?_
  | with_reducible refine rd_bm0 ?_
  | with_reducible refine rd_dgetT ?_
  | with_reducible refine rd_din ?_
  | with_reducible refine rd_dnin ?_
  | with_reducible refine rd_un ?_
  | ((with_reducible refine' rd_ixL ?rh ?re ?_); (case rh => walk_at "hp"); (case re => walk_at "at"))
  | ((with_reducible refine' rd_ixT ?rh ?re ?_); (case rh => walk_at "sq"); (case re => walk_at "at"))
  | ((with_reducible refine' rd_lenT ?rh ?_); (case rh => walk_at "sq"))
  | ((with_reducible refine' rd_tyL ?rh ?_); (case rh => walk_at "hp"))
  | ((with_reducible refine' rd_len ?rh ?_); (case rh => walk_at "hp"))
  | with_reducible refine rd_u ?_
  | ((with_reducible refine' rd_slL ?rh ?_); (case rh => walk_at "hp"))
  | with_reducible refine rd_for ?_
  | with_reducible refine rd_rng1 ?_
  | with_reducible refine rd_rng2 ?_
  | with_reducible refine rd_ints1 ?_
  | with_reducible refine rd_ints2 ?_
  | with_reducible refine rd_retN ?_)
local macro_rules | `(tactic| walk_at "rd") => `(tactic| repeat walk_at "rd1")
section
variable [KW]
variable {P : Program} {w : World} {K : PySem.W.Frag} {mg : Str → Option Value} {base : Heap}
/-! ### _law_some -/
structure SomeP (vs : List V) (H : Hp) (Q : VK) : Prop where
  ex : ∃ (M : List Addr) (s l : Addr) (rows : List Nat) (n : Int), vs = [.ref s, .ref l, .int n] ∧ StrAt M H s ∧ H l = some (.lst (nVl rows)) ∧ rows.length ≤ 1000000 ∧
    ∀ D rows' H', H D = none → H' D = some (.lst (nVl rows')) → (rows').Sublist rows → StrAt M H' s → Adv [s] H H' → Q (.ref D) H'
def spSome : Sp := fun vs H Q _ => SomeP vs H Q
theorem str_nl {M : List Addr} {H : Hp} {s l : Addr} {rows : List Nat} (hst : StrAt M H s) (hl : H l = some (.lst (nVl rows))) : l ≠ s := fun z => by
  obtain ⟨li, ns, c, k, h1, _⟩ := hst
  rw [z, h1] at hl
  injection hl with hl
  injection hl with hl
  unfold nVl at hl
  cases rows with
  | nil => cases hl
  | cons r rows => rw [List.map_cons] at hl; injection hl with hl; cases hl
theorem ok_law_some (A : All K mg w) : FnOk P w K mg base CX0 2 A.law_some.f A.law_some.fd ["stream", "rows", "share"] spSome := by
  refine A.law_some.F.ok sc_law_some (fun vs H Q E h => ?_) (fun cdv Ar outer s H vs Q E hr h => ?_)
  · obtain ⟨M, st, l, rows, n, rfl, _⟩ := h.ex
    rfl
  · obtain ⟨M, st, l, rows, n, rfl, hst, hl, hz, q⟩ := h.ex
    refine ⟨_, (pss_one (ps_ret (pe_lc (own := [("row", 3)]) (g := (gName 3)) rfl sc_law_some.nd (pi_list (pv 1)) (blkOk_by (own := [("row", 3)]) (N := ["stream", "rows", "share", "row"]) (sc := defScope s_law_some) (by decide +kernel)) (fun _ _ _ _ _ => pg_name (i := 3) sc_law_some.nd rfl (Or.inl rfl)) (fun _ _ _ _ _ => pts_one (pt_cmpR op_lt (pe_call (ok_law_next A) (hr.mono (by omega)) rfl A.law_next.m A.law_next.F.kp A.law_next.b .nil pass0 (pa_cons (pv 0) (pa_cons pe_int pa_nil))) (pv 2) (nomark _))) (fun _ _ _ _ _ => (pv 3))))), ?_⟩
    have sl : l ≠ st := str_nl hst hl
    walk_at "rd"
    refine ⟨_, rfl, l, rfl, ⟨_, SqL.of hl⟩, fun D nD => ?_⟩
    have Ds : st ≠ D := fun z => hst.here (by rw [z]; exact nD)
    refine lc_list (K := K) (a := l) (xs := nVl rows) (fun i H' => ∃ rows', H' D = some (.lst (nVl rows')) ∧ (rows').Sublist (rows.take i) ∧ StrAt (D :: M) H' st ∧ Adv [st] H H' ∧ H' l = some (.lst (nVl rows)))
      ⟨[], upd_same, by simp, (hst.fresh nD).same (Adv.new nD), Adv.nil (Adv.new nD), (Adv.new (M := []) nD).same _ _ hl⟩ (fun i H' _ p => ?_) (fun i x H' hx p => ?_) (fun H' p => ?_)
    · obtain ⟨r', _, _, _, _, h⟩ := p
      exact SqL.of h
    · obtain ⟨r', hD, hs, hst', a', hl'⟩ := p
      obtain ⟨k, hk, rfl⟩ := nVl_gt hx
      have et : rows.take (i + 1) = rows.take i ++ [k] := by rw [List.take_succ, hk]; rfl
      have lD : l ≠ D := ne_of_none hl nD
      refine ⟨rfl, _, rfl, st, 8, D :: M, rfl, hst', by decide, by decide, fun t H2 t0 t1 hs2 a2 => ?_⟩
      refine ⟨_, rfl, t, n, rfl, rfl, _, rfl, ?_⟩
      have hD2 := a2 _ _ (notin1 Ds.symm) hD
      have hl2 := a2 _ _ (notin1 sl) hl'
      have len1 := hs.length_le
      rw [List.length_take] at len1
      refine iteB (fun e => ?_) (fun e => ?_)
      · refine ⟨_, rfl, _, hD2, by rw [nVl_len, sizeLine_eq]; omega, r' ++ [k], ?_, ?_, hs2.adv (N := [D]) (Adv.set (by simp)) (notin1 Ds) (by simp), (a'.trans a2).mut nD, by rw [upd_ne lD]; exact hl2⟩
        · rw [upd_same]
          unfold nVl
          rw [List.map_append]
          rfl
        · rw [et]
          exact hs.append (List.Sublist.refl _)
      · exact ⟨r', hD2, by rw [et]; exact hs.trans (List.sublist_append_left _ _), hs2, a'.trans a2, hl2⟩
    · obtain ⟨r', hD, hs, hst', a', hl'⟩ := p
      have e : rows.take (nVl rows).length = rows := by rw [nVl_len, List.take_length]
      rw [e] at hs
      exact q D r' H' nD hD hs (hst'.less (by simp +contextual)) a'
theorem seq_at {j n : Nat} (h : j < n) : seqIndex? ((j : Nat) : Int) n = some j := (ixN_seq (ixN_of h)).1

/-! ### _law_shuffled: a tuple of whatever values -/
structure ShfP (vs : List V) (H : Hp) (Q : VK) : Prop where
  ex : ∃ (M : List Addr) (s l : Addr) (xs : List V), vs = [.ref s, .ref l] ∧ StrAt M H s ∧ SqT K H l xs ∧ xs.length ≤ 100000 ∧
    ∀ D xs' H', H D = none → H' D = some (.lst xs') → xs'.length = xs.length → (∀ x ∈ xs', x ∈ xs) → StrAt M H' s → Adv [s] H H' → Q (.ref D) H'
def spShf (K : PySem.W.Frag) : Sp := fun vs H Q _ => ShfP (K := K) vs H Q
theorem ok_law_shuffled (A : All K mg w) : FnOk P w K mg base CX0 2 A.law_shuffled.f A.law_shuffled.fd ["stream", "rows"] (spShf K) := by
  refine A.law_shuffled.F.ok sc_law_shuffled (fun vs H Q E h => ?_) (fun cdv Ar outer s H vs Q E hr h => ?_)
  · obtain ⟨M, st, l, xs, rfl, _⟩ := h.ex
    rfl
  · obtain ⟨M, st, l, xs, rfl, hst, hl, hz, q⟩ := h.ex
    refine ⟨_, (pss_cons (ps_set (i := 2) sc_law_shuffled.nd rfl (Or.inl rfl) (pe_callTy call_list_of (by rfl) A.T.list (by decide +kernel) (pa_cons (pv 1) pa_nil)))
  (pss_cons (ps_set (i := 3) sc_law_shuffled.nd rfl (Or.inl rfl) (pe_lst pa_nil))
  (pss_cons (ps_for PassesOwn.never rfl (pi_range1 rfl A.T.range (pa_cons (pe_callB call_len_seq (by rfl) A.T.len PySem.boot_len (pa_cons (pv 1) pa_nil)) pa_nil)) (pg_name (i := 4) sc_law_shuffled.nd rfl (Or.inl rfl))
    (pss_one (ps_expr (pe_bm PySem.F.plainAttrs_list PySem.F.slot_list_append PySem.F.type_list_append mt_append (pv 3) (pa_cons (pe_bm PySem.F.plainAttrs_list PySem.F.slot_list_pop PySem.F.type_list_pop mt_popAt (pv 2) (pa_cons (pe_call (ok_law_next A) (hr.mono (by omega)) rfl A.law_next.m A.law_next.F.kp A.law_next.b .nil pass0 (pa_cons (pv 0) (pa_cons (pe_callB call_len_seq (by rfl) A.T.len PySem.boot_len (pa_cons (pv 2) pa_nil)) pa_nil))) pa_nil)) pa_nil)))))
  (pss_one (ps_ret (pv 3)))))), ?_⟩
    walk_at "rd"
    intro p np
    have hl1 : SqT K (upd H p (.lst xs)) l xs := SqT.adv (Adv.new np) hl
    walk_at "rd"
    refine ⟨Nat.zero_le _, fun f nf => ?_⟩
    have nfp : f ≠ p := fun z => by rw [z, upd_same] at nf; cases nf
    have nf0 : H f = none := by rw [upd_ne nfp] at nf; exact nf
    have a0 : Adv [] H (upd (upd H p (.lst xs)) f (.lst [])) := (Adv.new np).trans (Adv.new nf)
    have hl2 : SqT K (upd (upd H p (.lst xs)) f (.lst [])) l xs := SqT.adv a0 hl
    have sp : st ≠ p := fun z => hst.here (by rw [z]; exact np)
    have sf : st ≠ f := fun z => hst.here (by rw [z]; exact nf0)
    walk_at "rd"
    refine ⟨by omega, by omega, ?_⟩
    refine for_range (lo := 0) (n := (xs.length : Int).toNat) (fun i σ' H' => ∃ (L F : List V) (y : Option V), σ' = [some (.ref st), some (.ref l), some (.ref p), some (.ref f), y] ∧ H' p = some (.lst L) ∧ H' f = some (.lst F) ∧ L.length + i = xs.length ∧ F.length = i ∧ (∀ r ∈ L, r ∈ xs) ∧ (∀ r ∈ F, r ∈ xs) ∧ StrAt (f :: p :: M) H' st ∧ Adv [st] H H')
      ⟨xs, [], none, rfl, by rw [upd_ne nfp.symm, upd_same], upd_same, rfl, rfl, fun r h => h, by simp, (((hst.fresh np).same (Adv.new np)).fresh nf).same (Adv.new nf), Adv.nil a0⟩ ?_ ?_
    · rintro i σ' H' hi ⟨L, F, y, rfl, hp, hf, hl1, hl2, m1, m2, hs, a⟩
      have hLp : 0 < L.length := by omega
      walk_at "rd"
      refine ⟨st, _, f :: p :: M, rfl, hs, by omega, by omega, fun d H2 d0 d1 hs2 a2 => ?_⟩
      obtain ⟨j, rfl⟩ : ∃ j : Nat, d = (j : Int) := ⟨d.toNat, by omega⟩
      have hj : j < L.length := by omega
      have hp2 := a2 _ _ (notin1 sp.symm) hp
      have hf2 := a2 _ _ (notin1 sf.symm) hf
      walk_at "rd"
      refine ⟨p, _, (j : Nat), j, L[j], rfl, rfl, hp2, by omega, by omega, seq_at hj, List.getElem?_eq_getElem hj, ?_⟩
      walk_at "rd"
      refine rd_app (by rw [upd_ne nfp]; exact hf2) (by rw [sizeLine_eq]; omega) ?_
      refine ⟨L.eraseIdx j, F ++ [L[j]], _, rfl, ?_, ?_, by rw [List.length_eraseIdx, if_pos hj]; omega, by rw [List.length_append, hl2]; rfl, fun r hr => m1 r (List.mem_of_mem_eraseIdx hr), fun r hr => ?_, ?_, ((a.trans a2).mut np).mut nf0⟩
      · rw [upd_ne nfp.symm, upd_same]
      · rw [upd_same]
      · rcases List.mem_append.mp hr with hr | hr
        · exact m2 r hr
        · rw [List.mem_singleton.mp hr]
          exact m1 _ (List.getElem_mem hj)
      · exact (hs2.adv (N := [p]) (Adv.set (by simp)) (notin1 sp) (by simp)).adv (N := [f]) (Adv.set (by simp)) (notin1 sf) (by simp)
    · rintro σ' H' ⟨L, F, y, rfl, hp, hf, hl1, hl2, m1, m2, hs, a⟩
      walk_at "rd"
      exact q f F H' nf0 hf (by omega) m2 (hs.less (by simp +contextual)) a
/-! ### _law_logic, _law_words -/
structure LogP (vs : List V) (H : Hp) (Q : VK) : Prop where
  ex : ∃ (M : List Addr) (s : Addr), vs = [.ref s] ∧ StrAt M H s ∧ ∀ lg H', logicOk lg = true → StrAt M H' s → Adv [s] H H' → Q (.str lg) H'
def spLog : Sp := fun vs H Q _ => LogP vs H Q
theorem ok_law_logic (A : All K mg w) : FnOk P w K mg base CX0 3 A.law_logic.f A.law_logic.fd ["stream"] spLog := by
  refine A.law_logic.F.ok sc_law_logic (fun vs H Q E h => ?_) (fun cdv Ar outer s H vs Q E hr h => ?_)
  · obtain ⟨M, st, rfl, _⟩ := h.ex
    rfl
  · obtain ⟨M, st, rfl, hst, q⟩ := h.ex
    refine ⟨_, (pss_one (ps_ret (pe_call (ok_law_pick A) (hr.mono (by omega)) rfl A.law_pick.m A.law_pick.F.kp A.law_pick.b .nil pass0 (pa_cons (pv 0) (pa_cons (pe_tup (pa_cons pe_str (pa_cons pe_str (pa_cons pe_str (pa_cons pe_str (pa_cons pe_str pa_nil)))))) pa_nil))))), ?_⟩
    walk_at "rd"
    refine ⟨by show 5 ≤ sizeLine; decide, fun p np => ?_⟩
    have ps : p ≠ st := fun z => hst.here (by rw [← z]; exact np)
    have a0 : Adv [] H (upd H p (.tup [.str "classical", .str "intuit", .str "k", .str "s4", .str "gl"])) := Adv.new np
    walk_at "rd"
    refine ⟨st, p, [.str "classical", .str "intuit", .str "k", .str "s4", .str "gl"], M, rfl, hst.same a0, .inr upd_same, ps, by simp, by simp, fun x H' hx hs a => ?_⟩
    have a' := (Adv.nil a0).trans a
    simp only [List.mem_cons, List.not_mem_nil, or_false] at hx
    rcases hx with rfl | rfl | rfl | rfl | rfl <;> exact q _ H' (by decide) hs a'
structure WrdP (vs : List V) (H : Hp) (Q : VK) : Prop where
  ex : vs = [] ∧ ∀ p H', H p = none → H' p = some (.tup (rlAll.map fun r => V.str r.str)) → Adv [] H H' → Q (.ref p) H'
def spWrd : Sp := fun vs H Q _ => WrdP vs H Q
theorem ok_law_words (A : All K mg w) : FnOk P w K mg base CX0 1 A.law_words.f A.law_words.fd [] spWrd := by
  refine A.law_words.F.ok sc_law_words (fun vs H Q E h => ?_) (fun cdv Ar outer s H vs Q E hr h => ?_)
  · obtain ⟨rfl, _⟩ := h.ex
    rfl
  · obtain ⟨rfl, q⟩ := h.ex
    refine ⟨_, (pss_one (ps_ret (pe_tup (pa_cons pe_str (pa_cons pe_str (pa_cons pe_str (pa_cons pe_str (pa_cons pe_str (pa_cons pe_str (pa_cons pe_str (pa_cons pe_str (pa_cons pe_str (pa_cons pe_str (pa_cons pe_str (pa_cons pe_str pa_nil))))))))))))))), ?_⟩
    walk_at "rd"
    refine ⟨by show 12 ≤ sizeLine; decide, fun p np => ?_⟩
    exact q p _ np upd_same (Adv.new np)
/-! ### _law_sides -/
/-- tuple(sorted(set(x))) -/
def SrtG (K : PySem.W.Frag) (w : World) (Q : VK) (x : V) (H : Hp) : Prop :=
  rSetL K w [x] H fun y H1 => rSortS w [y] H1 fun z H2 => ∃ p ys, [z] = [V.ref p] ∧ ((SqL K H2 p ys ∧ ∀ l, H2 l = none → Q (.ref l) (upd H2 l (.tup ys))) ∨ (SqT K H2 p ys ∧ Q (.ref p) H2))
theorem rd_srt {te : TE} {σ : L2.St} {H : Hp} {Q : VK} (q : te σ H fun x H1 => SrtG K w Q x H1) :
    tCB (fun xs H Q => ∃ p ys, xs = [V.ref p] ∧ ((SqL K H p ys ∧ ∀ l, H l = none → Q (.ref l) (upd H l (.tup ys))) ∨ (SqT K H p ys ∧ Q (.ref p) H))) (tCons (tCB (rSortS w) (tCons (tCB (rSetL K w) (tCons te tNil)) tNil)) tNil) σ H Q := q
theorem srt_go {H : Hp} {Q : VK} {c : Addr} (rows : List Nat) (hc : SqL K H c (nV rows) ∨ SqT K H c (nV rows)) (hz : rows.length ≤ 4000) (q : ∀ u H', H u = none → H' u = some (.tup (nVl (srtN rows))) → Adv [] H H' → Q (.ref u) H') :
    SrtG K w Q (.ref c) H := by
  have eV : nV rows = (rows.map fun r => ((r : Nat) : Int)).map V.int := by unfold nV; rw [List.map_map]; rfl
  rw [eV] at hc
  refine ⟨c, _, rfl, hc, by rw [List.length_map]; exact hz, fun p1 n1 _ np1 => ?_⟩
  refine ⟨p1, _, n1, rfl, upd_same, fun z1 p2 hz1 hm1 _ np2 => ?_⟩
  have ez1 : z1 = srtU (rows.map fun r => ((r : Nat) : Int)) := srtU_of hz1 hm1
  subst ez1
  rw [nV_srt]
  refine ⟨p2, _, rfl, .inl ⟨SqL.of upd_same, fun u nu => ?_⟩⟩
  have a2 := ((Adv.new (M := []) (o := SetO w p1 (fun j => decide (j ∈ rows.map fun r => ((r : Nat) : Int))) n1) np1).newT (o := .lst (nVl (srtN rows))) np2)
  exact q u _ (a2.free (by simp) nu) upd_same (a2.newT nu)
local macro_rules | `(tactic| walk_at "rd1") => `(tactic| with_reducible refine rd_srt ?_)

structure SidP (vs : List V) (H : Hp) (Q : VK) : Prop where
  ex : ∃ (M : List Addr) (s l u : Addr) (rows sure : List Nat) (n : Int), vs = [.ref s, .ref l, .int n, .ref u] ∧ StrAt M H s ∧ H l = some (.lst (nVl rows)) ∧ H u = some (.lst (nVl sure)) ∧ u ≠ s ∧ rows.length ≤ 1500 ∧ sure.length ≤ 100 ∧
    ∀ t out H', H t = none → H' t = some (.tup (nVl out)) → out.Pairwise (· < ·) → (∀ r ∈ out, r ∈ rows ∨ r ∈ sure) → (∀ r ∈ sure, r ∈ out) → out.length ≤ rows.length + sure.length → StrAt M H' s → Adv [s] H H' → Q (.ref t) H'
def spSid : Sp := fun vs H Q _ => SidP vs H Q
theorem ok_law_sides (A : All K mg w) : FnOk P w K mg base CX0 3 A.law_sides.f A.law_sides.fd ["stream", "rows", "share", "sure"] spSid := by
  refine A.law_sides.F.ok sc_law_sides (fun vs H Q E h => ?_) (fun cdv Ar outer s H vs Q E hr h => ?_)
  · obtain ⟨M, st, l, u, rows, sure, n, rfl, _⟩ := h.ex
    rfl
  · obtain ⟨M, st, l, u, rows, sure, n, rfl, hst, hl, hu, us, z1, z2, q⟩ := h.ex
    refine ⟨_, (pss_one (ps_ret (pe_callTy call_tuple_of (by rfl) A.T.tuple (by decide +kernel) (pa_cons (pe_callB (cr_sortS rfl) (by rfl) A.T.sorted (by decide +kernel) (pa_cons (pe_callTy (cr_setL rfl) (by rfl) A.T.set (by decide +kernel) (pa_cons (pe_op op_cat (pe_call (ok_law_some A) (hr.mono (by omega)) rfl A.law_some.m A.law_some.F.kp A.law_some.b .nil pass0 (pa_cons (pv 0) (pa_cons (pv 1) (pa_cons (pv 2) pa_nil)))) (pv 3)) pa_nil)) pa_nil)) pa_nil)))), ?_⟩
    walk_at "rd"
    refine ⟨⟨M, st, l, rows, n, rfl, hst, hl, by omega, fun D rows' H1 nD hD sub hs a => ?_⟩⟩
    have zs := sub.length_le
    have hu1 := a _ _ (notin1 us) hu
    walk_at "rd"
    refine rd_cat hD hu1 (by rw [nVl_len, nVl_len, sizeLine_eq]; omega) fun c nc => ?_
    have ec : nVl rows' ++ nVl sure = nVl (rows' ++ sure) := by unfold nVl; rw [List.map_append]
    rw [ec]
    have a1 : Adv [] H1 (upd H1 c (.lst (nVl (rows' ++ sure)))) := Adv.new nc
    refine srt_go (rows' ++ sure) (.inl (SqL.of upd_same)) (by rw [List.length_append]; omega) fun t H2 nt ht a2 => ?_
    have a12 := a1.trans a2
    have ns : t ≠ st := fun z => (hs.same a1).here (by rw [← z]; exact nt)
    refine q t (srtN (rows' ++ sure)) H2 (a.free (notin1 ns) (a1.free (by simp) nt)) ht (srtN_asc _) (fun r hr => ?_) (fun r hr => srtN_mem.mpr (List.mem_append_right _ hr)) ?_ (hs.same a12) (a.trans (Adv.nil a12))
    · rcases List.mem_append.mp (srtN_mem.mp hr) with h | h
      · exact .inl (sub.subset h)
      · exact .inr h
    · have := srtN_len (rows' ++ sure)
      rw [List.length_append] at this
      omega
end

set_option Elab.async false
set_option linter.all false
set_option maxRecDepth 100000
set_option maxHeartbeats 4000000
open PySem PySem.Spec PyProof.Rows L2 LL
open C8 (pss_cut)
section
variable [KW]
variable {P : Program} {w : World} {K : PySem.W.Frag} {mg : Str → Option Value} {base : Heap}
/-! ### _law_sheet -/
theorem rg_nat (n : Nat) : rgV 0 (n : Int) = nVl (List.range n) := by
  unfold rgV nVl
  have e : ((n : Int) - 0).toNat = n := by omega
  rw [e]
  congr 1
  funext i
  rw [Int.zero_add]
theorem drop3 {H H' : Hp} {s p q : Addr} (a : Adv [s, p, q] H H') (h1 : H p = none) (h2 : H q = none) : Adv [s] H H' := fun b o hb e => a b o (fun z => by
  rcases List.mem_cons.mp z with z | z
  · exact hb (by rw [z]; simp)
  · rcases List.mem_cons.mp z with z | z
    · rw [z, h1] at e; cases e
    · rw [List.mem_singleton.mp z, h2] at e; cases e) e
/-- the book of the one row no -/
theorem new1 {M : List Addr} {H : Hp} {st p1 b0 b1 p2 bk : Addr} {bx : Bool} (hs : StrAt M H st) (ms : st ∈ M) (al : ∀ b ∈ M, H b ≠ none) (n1 : H p1 = none) (n0 : (upd H p1 (.tup [.str "no"])) b0 = none) (nb : (upd (upd H p1 (.tup [.str "no"])) b0 (.lst [.ref p1])) b1 = none)
    (n2 : (upd (upd (upd H p1 (.tup [.str "no"])) b0 (.lst [.ref p1])) b1 (dxo b1 [])) p2 = none) (nk : (upd (upd (upd (upd (upd H p1 (.tup [.str "no"])) b0 (.lst [.ref p1])) b1 (dxo b1 [])) p2 (.tup [.str "no"])) b1 (dxo b1 (putX [] Nd.no.keys p2 (.int 0)))) bk = none) :
    Dw (b1 :: b0 :: M) (upd (upd (upd (upd (upd (upd H p1 (.tup [.str "no"])) b0 (.lst [.ref p1])) b1 (dxo b1 [])) p2 (.tup [.str "no"])) b1 (dxo b1 (putX [] Nd.no.keys p2 (.int 0)))) bk (.lst [.ref b0, .ref b1])) st bk b0 b1 bx [.no] ∧
    Adv [] H (upd (upd (upd (upd (upd (upd H p1 (.tup [.str "no"])) b0 (.lst [.ref p1])) b1 (dxo b1 [])) p2 (.tup [.str "no"])) b1 (dxo b1 (putX [] Nd.no.keys p2 (.int 0)))) bk (.lst [.ref b0, .ref b1])) ∧ H b0 = none ∧ H b1 = none := by
  have a1 : Adv [] H (upd H p1 (.tup [.str "no"])) := Adv.new n1
  have h1 : (upd H p1 (.tup [.str "no"])) p1 = some (.tup [.str "no"]) := upd_same
  generalize (upd H p1 (.tup [.str "no"])) = G1 at *
  have c0 : H b0 = none := a1.free (by simp) n0
  have a2 : Adv [] G1 (upd G1 b0 (.lst [.ref p1])) := Adv.new n0
  have h0 : (upd G1 b0 (.lst [.ref p1])) b0 = some (.lst [.ref p1]) := upd_same
  have h1 := a2.same _ _ h1
  generalize (upd G1 b0 (.lst [.ref p1])) = G2 at *
  have a02 := a1.trans a2
  have c1 : H b1 = none := a02.free (by simp) nb
  have a3 : Adv [] G2 (upd G2 b1 (dxo b1 [])) := Adv.new nb
  have h01 : b0 ≠ b1 := ne_of_none h0 nb
  have h11 : p1 ≠ b1 := ne_of_none h1 nb
  have h0 := a3.same _ _ h0
  have h1 := a3.same _ _ h1
  have hb : (upd G2 b1 (dxo b1 [])) b1 = some (dxo b1 []) := upd_same
  generalize (upd G2 b1 (dxo b1 [])) = G3 at *
  have a03 := a02.trans a3
  have c2 : H p2 = none := a03.free (by simp) n2
  have a4 : Adv [] G3 (upd G3 p2 (.tup [.str "no"])) := Adv.new n2
  have h21 : b1 ≠ p2 := ne_of_none hb n2
  have h20 : b0 ≠ p2 := ne_of_none h0 n2
  have h0 := a4.same _ _ h0
  have h1 := a4.same _ _ h1
  have h2 : (upd G3 p2 (.tup [.str "no"])) p2 = some (.tup [.str "no"]) := upd_same
  generalize (upd G3 p2 (.tup [.str "no"])) = G4 at *
  have a05 : Adv [] H (upd G4 b1 (dxo b1 (putX [] Nd.no.keys p2 (.int 0)))) := (a03.trans a4).mut c1
  have h0 : (upd G4 b1 (dxo b1 (putX [] Nd.no.keys p2 (.int 0)))) b0 = some (.lst [.ref p1]) := by rw [upd_ne h01]; exact h0
  have h1 : (upd G4 b1 (dxo b1 (putX [] Nd.no.keys p2 (.int 0)))) p1 = some (.tup [.str "no"]) := by rw [upd_ne h11]; exact h1
  have h2 : (upd G4 b1 (dxo b1 (putX [] Nd.no.keys p2 (.int 0)))) p2 = some (.tup [.str "no"]) := by rw [upd_ne h21.symm]; exact h2
  have hb : (upd G4 b1 (dxo b1 (putX [] Nd.no.keys p2 (.int 0)))) b1 = some (dxo b1 (putX [] Nd.no.keys p2 (.int 0))) := upd_same
  generalize (upd G4 b1 (dxo b1 (putX [] Nd.no.keys p2 (.int 0)))) = G5 at *
  have a6 : Adv [] G5 (upd G5 bk (.lst [.ref b0, .ref b1])) := Adv.new nk
  have a06 := a05.trans a6
  have ck : H bk = none := a05.free (by simp) nk
  have k0 : bk ≠ b0 := (ne_of_none h0 nk).symm
  have k1 : bk ≠ b1 := (ne_of_none hb nk).symm
  have p10 : p1 ≠ b0 := fun z => by rw [z, h0] at h1; cases h1
  have nM : ∀ {b : Addr}, H b = none → b ∉ M := fun {b} z hb => al b hb z
  refine ⟨⟨((hs.fresh c0).fresh c1).same a06, upd_same, by simp [ms], ?_, fun z => hs.here (by rw [z]; exact c0), fun z => hs.here (by rw [z]; exact c1), ⟨⟨[.ref p1], a6.same _ _ h0, ?_⟩, ⟨⟨[(Nd.no.keys, p2, .int 0)], a6.same _ _ hb, rfl, ?_⟩⟩, by simp, by simp, h01, ?_⟩, ⟨by simp, ?_⟩⟩, a06, c0, c1⟩
  · simp only [List.mem_cons, not_or]
    exact ⟨k1, k0, nM ck⟩
  · refine .cons (.tup (vs := [.str "no"]) (a6.same _ _ h1) ?_ (.cons .str .nil)) .nil
    simp only [List.mem_cons, not_or]
    exact ⟨h11, p10, nM n1⟩
  · intro q hq
    obtain rfl := List.mem_singleton.mp hq
    refine Tp.of (a6.same _ _ h2) ?_
    simp only [List.mem_cons, not_or]
    exact ⟨h21.symm, h20.symm, nM c2⟩
  · intro b hb' z
    rcases List.mem_cons.mp hb' with e | hb'
    · rw [e, a6.same _ _ hb] at z; cases z
    · rcases List.mem_cons.mp hb' with e | hb'
      · rw [e, a6.same _ _ h0] at z; cases z
      · exact al b hb' (a06.free (by simp) z)
  · intro i n e
    cases i with
    | zero => obtain rfl := Option.some.inj e; rfl
    | succ i => cases e
def w0 : Rl → Str
  | .axm => "axiom" | .no => "no" | .giv => "given" | .andL => "and" | .orL => "or" | .ifL => "if" | .boxL => "box" | .andR => "and" | .orR => "or" | .ifR => "if" | .box => "box" | .cut => "cut"
theorem split0 (r : Rl) : ((Txt.split r.str " ").map V.str)[0]? = some (V.str (w0 r)) := by cases r <;> decide +kernel
theorem rl_len (r : Rl) : r.str.length + 2 ≤ sizeLine := by
  have : r.str.length ≤ 10 := by cases r <;> decide +kernel
  rw [sizeLine_eq]; omega
theorem w0_in (r : Rl) : inV (.str (w0 r)) [.str "and", .str "or", .str "if", .str "box"] = true → w0 r = "box" ∨ ∃ o : Op3, w0 r = o.str := by
  cases r <;> first | (intro h; exact absurd h (by decide +kernel)) | (intro _; exact .inl rfl) | (intro _; exact .inr ⟨.and, rfl⟩) | (intro _; exact .inr ⟨.or, rfl⟩) | (intro _; exact .inr ⟨.imp, rfl⟩)
/-- behind the main row -/
structure MidS (M : List Addr) (st bk b0 b1 L : Addr) (lg : Str) (r : Rl) (n0 N : Nat) (H0 : Hp) (σ : L2.St) (H : Hp) : Prop where
  ex : ∃ (y5 : Option V) (wd : Str) (m : Nat) (ns : List Nd), σ = [some (.ref st), some (.str lg), some (.str r.str), some (.ref bk), some (.bl (logicB lg)), y5, some (.ref L), some (.str wd), some (.int (m : Nat))] ∧ Dw (L :: b1 :: b0 :: M) H st bk b0 b1 (logicB lg) ns ∧
    [Nd.no] <+: ns ∧ m < ns.length ∧ n0 ≤ ns.length ∧ ns.length ≤ N ∧ H L = some (.lst (nVl (List.range n0))) ∧ Adv [st, b0, b1] H0 H
theorem wd_box {wd : Str} {lg : Str} (h : (wd = "box" ∧ logicB lg = true) ∨ ∃ o : Op3, wd = o.str) (e : wd = "box") : logicB lg = true := by
  rcases h with h | ⟨o, h⟩
  · exact h.2
  · rw [e] at h; cases o <;> exact absurd h (by decide)
structure ShtP (vs : List V) (H : Hp) (Q : VK) : Prop where
  ex : ∃ (M : List Addr) (s : Addr) (lg : Str) (r : Rl), vs = [.ref s, .str lg, .str r.str] ∧ StrAt M H s ∧ s ∈ M ∧ (∀ b ∈ M, H b ≠ none) ∧
    ∀ t S rs ns m H', H t = none → H' t = some (.tup [.ref S, .int (m : Nat)]) → H S = none → H' S = some (.lst rs) → IsDs (S :: M) H' (ns.map Nd.data) rs → okSheet (logicB lg) ns → ns[0]? = some .no → m < ns.length → ns.length ≤ 30 → StrAt M H' s → Adv [s] H H' → Q (.ref t) H'
def spSht : Sp := fun vs H Q _ => ShtP vs H Q
theorem ok_law_sheet (A : All K mg w) : FnOk P w K mg base CX0 6 A.law_sheet.f A.law_sheet.fd ["stream", "logic", "rule"] spSht := by
  refine A.law_sheet.F.ok sc_law_sheet (fun vs H Q E h => ?_) (fun cdv Ar outer s H vs Q E hr h => ?_)
  · obtain ⟨M, st, lg, r, rfl, _⟩ := h.ex
    rfl
  · obtain ⟨M, st, lg, r, rfl, hs, ms, al, q⟩ := h.ex
    refine ⟨_, (pss_cons (ps_set (i := 3) sc_law_sheet.nd rfl (Or.inl rfl) (pe_lst (pa_cons (pe_lst (pa_cons (pe_tup (pa_cons pe_str pa_nil)) pa_nil)) (pa_cons (pe_disp1X A.W (Nat.lt_of_succ_lt (hu_of hr)) (pe_tup (pa_cons pe_str pa_nil)) pe_int) pa_nil))))
  (pss_cons (ps_set (i := 4) sc_law_sheet.nd rfl (Or.inl rfl) (pe_call (ok_law_is_boxed A) (hr.mono (by omega)) rfl A.law_is_boxed.m A.law_is_boxed.F.kp A.law_is_boxed.b .nil pass0 (pa_cons (pv 1) pa_nil)))
  (pss_cons (ps_for PassesOwn.never rfl (pi_range1 rfl A.T.range (pa_cons (pe_call (ok_law_from A) (hr.mono (by omega)) rfl A.law_from.m A.law_from.F.kp A.law_from.b .nil pass0 (pa_cons (pv 0) (pa_cons pe_int (pa_cons pe_int pa_nil)))) pa_nil)) (pg_name (i := 5) sc_law_sheet.nd rfl (Or.inl rfl))
    (pss_one (ps_expr (pe_call (ok_law_tree A 1) (hr.mono (by omega)) rfl A.law_tree.m A.law_tree.F.kp A.law_tree.b .nil pass0 (pa_cons (pv 0) (pa_cons (pv 3) (pa_cons pe_int (pa_cons (pe_call (ok_law_next A) (hr.mono (by omega)) rfl A.law_next.m A.law_next.F.kp A.law_next.b .nil pass0 (pa_cons (pv 0) (pa_cons pe_int pa_nil))) (pa_cons (pv 4) pa_nil)))))))))
  (pss_cons (ps_set (i := 6) sc_law_sheet.nd rfl (Or.inl rfl) (pe_listRg rfl rfl A.T.list (prg_1 rfl A.T.range (pe_callB call_len_seq (by rfl) A.T.len PySem.boot_len (pa_cons (pe_ix ix_list (pv 3) pe_int (fun _ _ => rfl)) pa_nil)))))
  (pss_cons (ps_set (i := 7) sc_law_sheet.nd rfl (Or.inl rfl) (pe_ix ix_list (pe_split (pv 2) pe_str) pe_int (fun _ _ => rfl)))
  (pss_cut (ps_if (PW.pt (pw_or (pt_cmpR (op_notInK K rfl) (pv 7) (pe_tup (pa_cons pe_str (pa_cons pe_str (pa_cons pe_str (pa_cons pe_str pa_nil))))) rfl) (pw_or1 (PW.pt (pw_and (pt_cmpR op_eq (pv 7) pe_str (nomark _)) (pw_and1 (pt_not (pt_val (pv 4)))))))))
    (pss_one (ps_set (i := 7) sc_law_sheet.nd rfl (Or.inl rfl) (pe_call (ok_law_pick A) (hr.mono (by omega)) rfl A.law_pick.m A.law_pick.F.kp A.law_pick.b .nil pass0 (pa_cons (pv 0) (pa_cons (pe_tup (pa_cons pe_str (pa_cons pe_str (pa_cons pe_str pa_nil)))) pa_nil)))))
    pss_nil)
  (pss_cut (ps_set (i := 8) sc_law_sheet.nd rfl (Or.inl rfl) (pe_call (ok_law_row A) (hr.mono (by omega)) rfl A.law_row.m A.law_row.F.kp A.law_row.b .nil pass0 (pa_cons (pv 3) (pa_cons (pe_ifExp (pt_cmpR op_eq (pv 7) pe_str (nomark _)) (pe_tup (pa_cons pe_str (pa_cons (pe_call (ok_law_pick A) (hr.mono (by omega)) rfl A.law_pick.m A.law_pick.F.kp A.law_pick.b .nil pass0 (pa_cons (pv 0) (pa_cons (pv 6) pa_nil))) pa_nil))) (pe_tup (pa_cons (pv 7) (pa_cons (pe_call (ok_law_pick A) (hr.mono (by omega)) rfl A.law_pick.m A.law_pick.F.kp A.law_pick.b .nil pass0 (pa_cons (pv 0) (pa_cons (pv 6) pa_nil))) (pa_cons (pe_call (ok_law_pick A) (hr.mono (by omega)) rfl A.law_pick.m A.law_pick.F.kp A.law_pick.b .nil pass0 (pa_cons (pv 0) (pa_cons (pv 6) pa_nil))) pa_nil))))) pa_nil))))
  (pss_cut (ps_if (pt_val (pv 4))
    (pss_one (ps_for PassesOwn.never rfl (pi_range1 rfl A.T.range (pa_cons pe_int pa_nil)) (pg_name (i := 5) sc_law_sheet.nd rfl (Or.inl rfl))
    (pss_one (ps_expr (pe_call (ok_law_row A) (hr.mono (by omega)) rfl A.law_row.m A.law_row.F.kp A.law_row.b .nil pass0 (pa_cons (pv 3) (pa_cons (pe_tup (pa_cons pe_str (pa_cons (pe_call (ok_law_pick A) (hr.mono (by omega)) rfl A.law_pick.m A.law_pick.F.kp A.law_pick.b .nil pass0 (pa_cons (pv 0) (pa_cons (pe_op op_cat (pv 6) (pe_lst (pa_cons (pv 8) pa_nil))) pa_nil))) pa_nil))) pa_nil)))))))
    pss_nil)
  (pss_cut (ps_if (PW.pt (pw_or (pt_cmpR (op_inK K rfl) (pv 2) (pe_tup (pa_cons pe_str (pa_cons pe_str (pa_cons pe_str pa_nil)))) rfl) (pw_or1 (pt_cmpR op_eq (pe_call (ok_law_next A) (hr.mono (by omega)) rfl A.law_next.m A.law_next.F.kp A.law_next.b .nil pass0 (pa_cons (pv 0) (pa_cons pe_int pa_nil))) pe_int (nomark _)))))
    (pss_one (ps_set (i := 8) sc_law_sheet.nd rfl (Or.inl rfl) (pe_call (ok_law_next A) (hr.mono (by omega)) rfl A.law_next.m A.law_next.F.kp A.law_next.b .nil pass0 (pa_cons (pv 0) (pa_cons (pe_callB call_len_seq (by rfl) A.T.len PySem.boot_len (pa_cons (pe_ix ix_list (pv 3) pe_int (fun _ _ => rfl)) pa_nil)) pa_nil)))))
    pss_nil)
  (pss_one (ps_ret (pe_tup (pa_cons (pe_ix ix_list (pv 3) pe_int (fun _ _ => rfl)) (pa_cons (pv 8) pa_nil)))))))))))))), ?_⟩
    walk_at "rd"
    refine ⟨by show 1 ≤ sizeLine; decide, fun p1 n1 => ?_⟩
    walk_at "rd"
    refine ⟨by show 1 ≤ sizeLine; decide, fun b0 n0 => ?_⟩
    walk_at "rd"
    intro b1 nb
    walk_at "rd"
    refine ⟨by show 1 ≤ sizeLine; decide, fun p2 n2 => ?_⟩
    have h21 : b1 ≠ p2 := ne_of_none upd_same n2
    walk_at "rd"
    refine ⟨by rw [upd_ne h21]; exact upd_same, Nd.no.keys, p2, rfl, SqT.of upd_same, ?_⟩
    walk_at "rd"
    refine ⟨by show 2 ≤ sizeLine; decide, fun bk nk => ?_⟩
    obtain ⟨D0, a0, c0, c1⟩ := new1 (bx := logicB lg) hs ms al n1 n0 nb n2 nk
    generalize (upd (upd (upd (upd (upd (upd H p1 (.tup [.str "no"])) b0 (.lst [.ref p1])) b1 (dxo b1 [])) p2 (.tup [.str "no"])) b1 (dxo b1 (putX [] Nd.no.keys p2 (.int 0)))) bk (.lst [.ref b0, .ref b1])) = H1 at D0 a0
    clear n1 n0 nb n2 nk h21
    walk_at "rd"
    refine ⟨lg, rfl, fun H2 b => ?_⟩
    have D0 := D0.same b
    replace a0 := a0.trans b
    clear b
    walk_at "rd"
    refine ⟨st, 2, 4, _, rfl, D0.str, by decide, by decide, fun m H4 m0 m1 hs4 a4 => ?_⟩
    have D4 := D0.next a4 hs4
    have A4 : Adv [st, b0, b1] H H4 := (Adv.nil a0).trans (a_s a4)
    clear D0 a0 a4 hs4
    walk_at "rd"
    refine ⟨by omega, by omega, ?_⟩
    refine for_range (lo := 0) (n := m.toNat) (fun i σ' H' => ∃ ns y5, σ' = [some (.ref st), some (.str lg), some (.str r.str), some (.ref bk), some (.bl (logicB lg)), y5, none, none, none] ∧ Dw (b1 :: b0 :: M) H' st bk b0 b1 (logicB lg) ns ∧ [Nd.no] <+: ns ∧ ns.length ≤ 1 + 3 * i ∧ Adv [st, b0, b1] H H')
      ⟨[.no], _, rfl, D4, List.prefix_refl _, by simp, A4⟩ ?_ ?_
    · rintro i σ' H' hi ⟨ns, y5, rfl, D, pre, hl, a⟩
      walk_at "rd"
      refine ⟨st, 2, _, rfl, D.str, by decide, by decide, fun k H5 k0 k1 hs5 a5 => ?_⟩
      have D5 := D.next a5 hs5
      walk_at "rd"
      refine ⟨⟨_, st, bk, b0, b1, logicB lg, ns, 3, k, rfl, D5, by decide, by decide, k0, by omega, by decide, by omega, fun r' ns' H6 x => ?_⟩⟩
      have xl := x.le
      walk_at "rd"
      exact ⟨ns', _, rfl, x.D, pre.trans x.pre, by omega, (a.trans (a_s a5)).trans x.a⟩
    · rintro σ' H' ⟨ns, y5, rfl, D, pre, hl, a⟩
      have hl : ns.length ≤ 13 := by omega
      obtain ⟨rs, hb, hrs⟩ := D.B.rows
      have hrl := hrs.len
      rw [List.length_map] at hrl
      have hbk := D.hbk
      walk_at "rd"
      unfold tLstRg tRg1
      walk_at "rd"
      refine ⟨.of_le (by omega) (by omega) (by omega) (by omega), fun L nL => ?_⟩
      rw [hrl, rg_nat]
      have fL := D.free nL
      have D1 := D.fresh (o := .lst (nVl (List.range ns.length))) nL
      have hL : (upd H' L (.lst (nVl (List.range ns.length)))) L = some (.lst (nVl (List.range ns.length))) := upd_same
      have a1 := a.newT (o := .lst (nVl (List.range ns.length))) nL
      generalize (upd H' L (.lst (nVl (List.range ns.length)))) = H1 at D1 hL a1
      clear D a nL hb hrs hbk D4 A4
      walk_at "rd"
      refine ⟨_, rfl, ⟨_, rfl⟩, ?_⟩
      walk_at "rd"
      refine ⟨r.str, " ", rfl, rfl, by decide +kernel, rl_len r, fun ws nws => ?_⟩
      have bw : Adv [] H1 (upd H1 ws (.lst ((Txt.split r.str " ").map V.str))) := Adv.new nws
      have hws : (upd H1 ws (.lst ((Txt.split r.str " ").map V.str))) ws = some (.lst ((Txt.split r.str " ").map V.str)) := upd_same
      have D2 := D1.same bw
      have hL2 := bw.same _ _ hL
      have a2 := a1.trans (Adv.nil bw)
      generalize (upd H1 ws (.lst ((Txt.split r.str " ").map V.str))) = H2 at bw hws D2 hL2 a2
      clear D1 hL a1 nws bw
      refine rd_ixL hws (atI_nat (j := 0) (split0 r)) ?_
      clear hws
      walk_at "rd"
      refine ⟨fun σ' H' => ∃ wd, σ' = [some (.ref st), some (.str lg), some (.str r.str), some (.ref bk), some (.bl (logicB lg)), y5, some (.ref L), some (.str wd), none] ∧ ((wd = "box" ∧ logicB lg = true) ∨ ∃ o : Op3, wd = o.str) ∧ Dw (L :: b1 :: b0 :: M) H' st bk b0 b1 (logicB lg) ns ∧ H' L = some (.lst (nVl (List.range ns.length))) ∧ Adv [st, b0, b1] H H', ?_, ?_⟩
      · have pick : ∀ {H3 : Hp} {Q' : VK}, Dw (L :: b1 :: b0 :: M) H3 st bk b0 b1 (logicB lg) ns → H3 L = some (.lst (nVl (List.range ns.length))) → Adv [st, b0, b1] H H3 → ∀ p, H3 p = none →
            (∀ (o : Op3) H', Dw (L :: b1 :: b0 :: M) H' st bk b0 b1 (logicB lg) ns → H' L = some (.lst (nVl (List.range ns.length))) → Adv [st, b0, b1] H H' → Q' (.str o.str) H') → spPick [.ref st, .ref p] (upd H3 p (.tup [.str "and", .str "or", .str "if"])) Q' E0 := fun {H3 Q'} D h a p np k => by
          have b : Adv [] H3 (upd H3 p (.tup [.str "and", .str "or", .str "if"])) := Adv.new np
          refine ⟨st, p, [.str "and", .str "or", .str "if"], _, rfl, D.str.same b, .inr upd_same, (D.free np).2.1, by simp, by simp, fun x H' hx hs' a' => ?_⟩
          obtain ⟨o, rfl⟩ : ∃ o : Op3, x = .str o.str := by
            simp only [List.mem_cons, List.not_mem_nil, or_false] at hx
            rcases hx with rfl | rfl | rfl
            · exact ⟨.and, rfl⟩
            · exact ⟨.or, rfl⟩
            · exact ⟨.imp, rfl⟩
          exact k o H' ((D.same b).next a' hs') (a' _ _ (notin1 fL.2.1) (b.same _ _ h)) ((a.trans (Adv.nil b)).trans (a_s a'))
        walk_at "rd"
        refine ⟨by show 4 ≤ sizeLine; decide, fun t0 nt0 => ?_⟩
        have b : Adv [] H2 (upd H2 t0 (.tup [.str "and", .str "or", .str "if", .str "box"])) := Adv.new nt0
        have ht0 : (upd H2 t0 (.tup [.str "and", .str "or", .str "if", .str "box"])) t0 = some (.tup [.str "and", .str "or", .str "if", .str "box"]) := upd_same
        have D3 := D2.same b
        have hL3 := b.same _ _ hL2
        have a3 := a2.trans (Adv.nil b)
        generalize (upd H2 t0 (.tup [.str "and", .str "or", .str "if", .str "box"])) = H3 at b ht0 D3 hL3 a3
        clear D2 hL2 a2 nt0 b
        refine ⟨t0, _, rfl, .inr (SqT.of ht0), rfl, rfl, ?_⟩
        rw [if_pos rfl]
        clear ht0
        refine ⟨_, rfl, iteB (fun e => ?_) (fun e => ?_)⟩
        · walk_at "rd"
          refine ⟨by show 3 ≤ sizeLine; decide, fun p np => ?_⟩
          walk_at "rd"
          refine pick D3 hL3 a3 p np fun o H' D h a => ?_
          walk_at "rd"
          exact ⟨_, rfl, .inr ⟨o, rfl⟩, D, h, a⟩
        · have ei : inV (.str (w0 r)) [.str "and", .str "or", .str "if", .str "box"] = true := by simpa using e
          have ew := w0_in r ei
          walk_at "rd"
          refine iteB (fun e2 => ?_) (fun e2 => ?_)
          · have ewb : w0 r = "box" := by simpa using e2
            walk_at "rd"
            refine iteB (fun e3 => ?_) (fun e3 => ?_)
            · walk_at "rd"
              refine ⟨by show 3 ≤ sizeLine; decide, fun p np => ?_⟩
              walk_at "rd"
              refine pick D3 hL3 a3 p np fun o H' D h a => ?_
              walk_at "rd"
              exact ⟨_, rfl, .inr ⟨o, rfl⟩, D, h, a⟩
            · walk_at "rd"
              exact ⟨_, rfl, .inl ⟨ewb, by simpa using e3⟩, D3, hL3, a3⟩
          · have ewb : ¬ w0 r = "box" := by simpa using e2
            walk_at "rd"
            exact ⟨_, rfl, .inr (ew.resolve_left ewb), D3, hL3, a3⟩
      · clear D2 hL2 a2
        rintro σ' H' ⟨wd, rfl, hwd, D, hL, a⟩
        have npos : 0 < ns.length := pre.length_le
        have L3 : L ∉ [st, b0, b1] := by simp [fL.2.1, fL.2.2.2.1, fL.2.2.2.2]
        have pickL : ∀ {H3 : Hp} {Q' : VK} {ns3 : List Nd} {P0 : Addr} {l0 : List Nat}, Dw (L :: b1 :: b0 :: M) H3 st bk b0 b1 (logicB lg) ns3 → H3 L = some (.lst (nVl (List.range ns.length))) → H3 P0 = some (.lst (nVl l0)) → P0 ≠ st → l0 ≠ [] → l0.length ≤ 1000 →
            (∀ (k : Nat) H', k ∈ l0 → Dw (L :: b1 :: b0 :: M) H' st bk b0 b1 (logicB lg) ns3 → H' L = some (.lst (nVl (List.range ns.length))) → Adv [st, b0, b1] H3 H' → Q' (.int (k : Nat)) H') → spPick [.ref st, .ref P0] H3 Q' E0 := fun {H3 Q' ns3 P0 l0} D h hp ps ne hz k => by
          refine ⟨st, P0, nVl l0, _, rfl, D.str, .inl hp, ps, ?_, by rw [nVl_len]; omega, fun x H' hx hs' a' => ?_⟩
          · intro z
            have := nVl_len l0
            rw [z] at this
            exact ne (List.eq_nil_of_length_eq_zero this.symm)
          · obtain ⟨i, hi⟩ := List.getElem?_of_mem hx
            obtain ⟨j, hj, rfl⟩ := nVl_get hi
            exact k j H' (List.mem_of_getElem? hj) (D.next a' hs') (a' _ _ (notin1 fL.2.1) h) (a_s a')
        have rne : List.range ns.length ≠ [] := fun z => by have := congrArg List.length z; rw [List.length_range] at this; have : ns.length = 0 := this; omega
        walk_at "rd"
        refine ⟨MidS M st bk b0 b1 L lg r ns.length 14 H, ?_, ?_⟩
        · walk_at "rd"
          refine iteB (fun e => ?_) (fun e => ?_)
          · have ew : wd = "box" := by simpa using e
            have eb := wd_box hwd ew
            walk_at "rd"
            refine pickL D hL hL fL.2.1 rne (by rw [List.length_range]; omega) fun k H3 hk D3 hL3 a3 => ?_
            have hk := List.mem_range.mp hk
            walk_at "rd"
            refine ⟨by show 2 ≤ sizeLine; decide, fun t nt => ?_⟩
            walk_at "rd"
            refine row_dn (ns0 := ns) (c := 1) (H0 := H3) (.box k) D3 nt (by simp only [Nd.ok, Bool.and_eq_true, decide_eq_true_eq]; exact ⟨eb, hk⟩) (by omega) (List.prefix_refl _) (by omega) (Adv.refl _ _) fun r' ns' H4 x => ?_
            have xl := x.le
            have xg := x.ge
            walk_at "rd"
            exact ⟨⟨_, wd, r', ns', rfl, x.D, pre.trans x.pre, x.lt, xg, by omega, x.a _ _ L3 hL3, (a.trans a3).trans x.a⟩⟩
          · have ew : ¬ wd = "box" := by simpa using e
            obtain ⟨o, rfl⟩ := hwd.resolve_left fun z => ew z.1
            walk_at "rd"
            refine pickL D hL hL fL.2.1 rne (by rw [List.length_range]; omega) fun k H3 hk D3 hL3 a3 => ?_
            have hk := List.mem_range.mp hk
            walk_at "rd"
            refine pickL D3 hL3 hL3 fL.2.1 rne (by rw [List.length_range]; omega) fun k2 H4 hk2 D4 hL4 a4 => ?_
            have hk2 := List.mem_range.mp hk2
            walk_at "rd"
            refine ⟨by show 3 ≤ sizeLine; decide, fun t nt => ?_⟩
            walk_at "rd"
            refine row_dn (ns0 := ns) (c := 1) (H0 := H4) (.bin o k k2) D4 nt (by simp only [Nd.ok, Bool.and_eq_true, decide_eq_true_eq]; omega) (by omega) (List.prefix_refl _) (by omega) (Adv.refl _ _) fun r' ns' H5 x => ?_
            have xl := x.le
            have xg := x.ge
            walk_at "rd"
            exact ⟨⟨_, _, r', ns', rfl, x.D, pre.trans x.pre, x.lt, xg, by omega, x.a _ _ L3 hL4, ((a.trans a3).trans a4).trans x.a⟩⟩
        · clear D hL a
          rintro σ' H' ⟨⟨z5, wd2, m2, ns2, rfl, D, pre2, hm2, hn2, hN2, hL, a⟩⟩
          walk_at "rd"
          refine ⟨MidS M st bk b0 b1 L lg r ns.length 16 H, ?_, ?_⟩
          · walk_at "rd"
            refine iteB (fun e => ?_) (fun e => ?_)
            · have eb : logicB lg = true := by simpa using e
              walk_at "rd"
              refine ⟨by decide, by decide, ?_⟩
              refine for_range (lo := 0) (n := (2 : Int).toNat) (fun i σ' H' => ∃ z5 ns3, σ' = [some (.ref st), some (.str lg), some (.str r.str), some (.ref bk), some (.bl (logicB lg)), z5, some (.ref L), some (.str wd2), some (.int (m2 : Nat))] ∧ Dw (L :: b1 :: b0 :: M) H' st bk b0 b1 (logicB lg) ns3 ∧
                [Nd.no] <+: ns3 ∧ ns2.length ≤ ns3.length ∧ ns3.length ≤ 14 + i ∧ H' L = some (.lst (nVl (List.range ns.length))) ∧ Adv [st, b0, b1] H H')
                ⟨_, ns2, rfl, D, pre2, Nat.le_refl _, by omega, hL, a⟩ ?_ ?_
              · rintro i σ' H3 hi ⟨z6, ns3, rfl, D3, pre3, hn3, hN3, hL3, a3⟩
                walk_at "rd"
                refine ⟨by show 1 ≤ sizeLine; decide, fun p np => ?_⟩
                have b : Adv [] H3 (upd H3 p (.lst [.int (m2 : Nat)])) := Adv.new np
                have hp : (upd H3 p (.lst [.int (m2 : Nat)])) p = some (.lst [.int (m2 : Nat)]) := upd_same
                have D4 := D3.same b
                have hL4 := b.same _ _ hL3
                have a4 := a3.trans (Adv.nil b)
                generalize (upd H3 p (.lst [.int (m2 : Nat)])) = H4 at b hp D4 hL4 a4
                clear D3 hL3 a3 np b
                refine rd_cat hL4 hp (by rw [nVl_len, List.length_range, sizeLine_eq]; show _ + 1 ≤ _; omega) fun p2 np2 => ?_
                have ec : nVl (List.range ns.length) ++ [V.int (m2 : Nat)] = nVl (List.range ns.length ++ [m2]) := by unfold nVl; rw [List.map_append]; rfl
                rw [ec]
                have ps := (D4.free np2).2.1
                have b : Adv [] H4 (upd H4 p2 (.lst (nVl (List.range ns.length ++ [m2])))) := Adv.new np2
                have hp2 : (upd H4 p2 (.lst (nVl (List.range ns.length ++ [m2])))) p2 = some (.lst (nVl (List.range ns.length ++ [m2]))) := upd_same
                have D5 := D4.same b
                have hL5 := b.same _ _ hL4
                have a5 := a4.trans (Adv.nil b)
                generalize (upd H4 p2 (.lst (nVl (List.range ns.length ++ [m2])))) = H5 at b hp2 D5 hL5 a5
                clear D4 hL4 a4 np2 b hp
                walk_at "rd"
                refine pickL D5 hL5 hp2 ps (by simp) (by rw [List.length_append, List.length_range]; show _ + 1 ≤ _; omega) fun k H6 hk D6 hL6 a6 => ?_
                have hk : k < ns3.length := by
                  rcases List.mem_append.mp hk with h | h
                  · have := List.mem_range.mp h; omega
                  · rw [List.mem_singleton.mp h]; omega
                walk_at "rd"
                refine ⟨by show 2 ≤ sizeLine; decide, fun t nt => ?_⟩
                walk_at "rd"
                refine row_dn (ns0 := ns3) (c := 1) (H0 := H6) (.box k) D6 nt (by simp only [Nd.ok, Bool.and_eq_true, decide_eq_true_eq]; exact ⟨eb, hk⟩) (by omega) (List.prefix_refl _) (by omega) (Adv.refl _ _) fun r' ns' H7 x => ?_
                have xl := x.le
                have xg := x.ge
                walk_at "rd"
                exact ⟨_, ns', rfl, x.D, pre3.trans x.pre, by omega, by omega, x.a _ _ L3 hL6, (a5.trans a6).trans x.a⟩
              · rintro σ' H3 ⟨z6, ns3, rfl, D3, pre3, hn3, hN3, hL3, a3⟩
                exact ⟨⟨_, wd2, m2, ns3, rfl, D3, pre3, by omega, by omega, hN3, hL3, a3⟩⟩
            · walk_at "rd"
              exact ⟨⟨_, wd2, m2, ns2, rfl, D, pre2, hm2, hn2, by omega, hL, a⟩⟩
          · clear D hL a
            rintro σ' H' ⟨⟨z7, wd3, m3, ns3, rfl, D, pre3, hm3, hn3, hN3, hL, a⟩⟩
            walk_at "rd"
            refine ⟨MidS M st bk b0 b1 L lg r ns.length 16 H, ?_, ?_⟩
            · have draw : ∀ {H3 : Hp}, Dw (L :: b1 :: b0 :: M) H3 st bk b0 b1 (logicB lg) ns3 → H3 L = some (.lst (nVl (List.range ns.length))) → Adv [st, b0, b1] H H3 → ∀ {Q' : VK}, (∀ (k : Nat) H', MidS M st bk b0 b1 L lg r ns.length 16 H [some (.ref st), some (.str lg), some (.str r.str), some (.ref bk), some (.bl (logicB lg)), z7, some (.ref L), some (.str wd3), some (.int (k : Nat))] H' → Q' (.int (k : Nat)) H') →
                  spNext [.ref st, .int (ns3.length : Nat)] H3 Q' E0 := fun {H3} D3 hL3 a3 {Q'} k => by
                refine ⟨st, (ns3.length : Nat), _, rfl, D3.str, by omega, by omega, fun d H4 d0 d1 hs4 a4 => ?_⟩
                obtain ⟨j, rfl⟩ : ∃ j : Nat, d = (j : Int) := ⟨d.toNat, by omega⟩
                exact k j H4 ⟨⟨_, wd3, j, ns3, rfl, D3.next a4 hs4, pre3, by omega, hn3, hN3, a4 _ _ (notin1 fL.2.1) hL3, a3.trans (a_s a4)⟩⟩
              walk_at "rd"
              refine ⟨by show 3 ≤ sizeLine; decide, fun t0 nt0 => ?_⟩
              have b : Adv [] H' (upd H' t0 (.tup [.str "axiom", .str "given", .str "cut"])) := Adv.new nt0
              have ht0 : (upd H' t0 (.tup [.str "axiom", .str "given", .str "cut"])) t0 = some (.tup [.str "axiom", .str "given", .str "cut"]) := upd_same
              have D4 := D.same b
              have hL4 := b.same _ _ hL
              have a4 := a.trans (Adv.nil b)
              generalize (upd H' t0 (.tup [.str "axiom", .str "given", .str "cut"])) = H4 at b ht0 D4 hL4 a4
              clear D hL a nt0 b
              obtain ⟨rs, hb, hrs⟩ := D4.B.rows
              have hrl := hrs.len
              rw [List.length_map] at hrl
              have hbk := D4.hbk
              clear hrs
              refine ⟨t0, _, rfl, .inr (SqT.of ht0), rfl, rfl, ?_⟩
              refine ⟨_, rfl, iteB (fun e => ?_) (fun e => ?_)⟩
              · walk_at "rd"
                rw [hrl]
                refine draw D4 hL4 a4 fun k H5 x => ?_
                walk_at "rd"
                exact x
              · walk_at "rd"
                refine ⟨st, 10, _, rfl, D4.str, by decide, by decide, fun d H5 d0 d1 hs5 a5 => ?_⟩
                have D5 := D4.next a5 hs5
                have hL5 := a5 _ _ (notin1 fL.2.1) hL4
                have a05 := a4.trans (a_s a5)
                obtain ⟨rs, hb, hrs⟩ := D5.B.rows
                have hrl := hrs.len
                rw [List.length_map] at hrl
                have hbk := D5.hbk
                clear hrs ht0 hs5
                walk_at "rd"
                refine iteB (fun e2 => ?_) (fun e2 => ?_)
                · walk_at "rd"
                  rw [hrl]
                  refine draw D5 hL5 a05 fun k H6 x => ?_
                  walk_at "rd"
                  exact x
                · walk_at "rd"
                  exact ⟨⟨_, wd3, m3, ns3, rfl, D5, pre3, hm3, hn3, hN3, hL5, a05⟩⟩
            · clear D hL a
              rintro σ' H' ⟨⟨z8, wd4, m4, ns4, rfl, D, pre4, hm4, hn4, hN4, hL, a⟩⟩
              obtain ⟨rs, hb, hrs⟩ := D.B.rows
              have hbk := D.hbk
              have hs5 := D.str
              have a5 : Adv [st] H H' := drop3 a c0 c1
              have alH := D.B.al
              walk_at "rd"
              refine ⟨by show 2 ≤ sizeLine; decide, fun t nt => ?_⟩
              have b : Adv [] H' (upd H' t (.tup [.ref b0, .int (m4 : Nat)])) := Adv.new nt
              have ts := (D.free nt).2.1
              have h0 : ns4[0]? = some .no := by
                obtain ⟨r4, e4⟩ := pre4
                rw [← e4]; rfl
              exact q t b0 rs ns4 m4 _ (a5.free (notin1 ts) nt) upd_same c0 (b.same _ _ hb) ((hrs.adv b.nil).less (by simp +contextual)) D.ok h0 hm4 (by omega) ((hs5.less (by simp +contextual)).same b) (a5.trans (Adv.nil b))
end

set_option Elab.async false
set_option linter.all false
set_option maxRecDepth 100000
set_option maxHeartbeats 4000000
open PySem PySem.Spec PyProof.Rows L2 LL
open C8 (pss_cut)
section
variable [KW]
variable {P : Program} {w : World} {K : PySem.W.Frag} {mg : Str → Option Value} {base : Heap}
/-! ### _law_single: from the premises on -/
/-- the sheet and its rows stand -/
structure ShS (M : List Addr) (st S D : Addr) (lg : Str) (ns : List Nd) (H : Hp) : Prop where
  str : StrAt M H st
  ms : st ∈ M
  al : ∀ b ∈ M, H b ≠ none
  sM : S ∉ M
  hS : ∃ rs, H S = some (.lst rs) ∧ IsDs M H (ns.map Nd.data) rs
  dM : D ∉ M
  hD : H D = some (.lst (nVl (List.range ns.length)))
  ok : okSheet (logicB lg) ns
  h0 : ns[0]? = some .no
  nl : ns.length ≤ 30
theorem ShS.sM1 {M : List Addr} {st S D : Addr} {lg : Str} {ns : List Nd} {H : Hp} (x : ShS M st S D lg ns H) : ∀ b ∈ [st], b ∈ M := by simpa using x.ms
theorem ShS.next {M : List Addr} {st S D : Addr} {lg : Str} {ns : List Nd} {H H' : Hp} (x : ShS M st S D lg ns H) (a : Adv [st] H H') (hs : StrAt M H' st) : ShS M st S D lg ns H' := by
  obtain ⟨rs, h, r⟩ := x.hS
  have ne : ∀ {b : Addr}, b ∉ M → b ∉ [st] := fun {b} h z => h (x.sM1 b z)
  exact ⟨hs, x.ms, alloc_adv x.al a (by simpa using hs.here), x.sM, ⟨rs, a _ _ (ne x.sM) h, r.adv (a.more x.sM1)⟩, x.dM, a _ _ (ne x.dM) x.hD, x.ok, x.h0, x.nl⟩
theorem ShS.same {M : List Addr} {st S D : Addr} {lg : Str} {ns : List Nd} {H H' : Hp} (x : ShS M st S D lg ns H) (a : Adv [] H H') : ShS M st S D lg ns H' := x.next (Adv.nil a) (x.str.same a)
/-- what stands when all premises' lines are written -/
structure MidA (M : List Addr) (st : Addr) (H0 : Hp) (lg : Str) (r : Rl) (σ : L2.St) (H : Hp) : Prop where
  ex : ∃ (S D Ls N th le ri : Addr) (mi : Int) (sv tv : V) (y15 y16 y17 y18 y19 y20 : Option V) (lvs : List V) (ns : List Nd) (thN leN riN : List Nat) (ks : List Ln),
    σ = [some (.ref st), some (.str lg), some (.str r.str), some (.ref S), some (.int mi), some (.ref D), some (.bl (logicB lg)), some (.ref th), some sv, some (.ref le), some (.ref ri), some (.int (r.cnt : Nat)), some tv, some (.ref Ls), some (.ref N), y15, y16, y17, y18, y19, y20, none] ∧
    ShS (Ls :: M) st S D lg ns H ∧ st ∈ M ∧ H Ls = some (.lst lvs) ∧ Ls ∉ M ∧ IsDs (Ls :: M) H ((line0 :: ks).map Ln.data) lvs ∧ Tp (Ls :: M) H th (nVl thN) ∧ RwO ns.length thN ∧ (if logicB lg = true then 0 ∈ thN else thN = []) ∧
    Tp (Ls :: M) H le (nVl leN) ∧ RwO ns.length leN ∧ Tp (Ls :: M) H ri (nVl riN) ∧ RwO ns.length riN ∧ ks.length = r.cnt ∧ (∀ k ∈ ks, FstL (logicB lg) ns.length k) ∧ (r = .no → mi = -1) ∧ (r ≠ .no → ∃ m : Nat, mi = m ∧ m < ns.length) ∧ H0 Ls = none ∧ Adv [st] H0 H
theorem single4 (A : All K mg w) {cdv : Value} {Ar : Around} {outer : List Env} {s : Shared} {H : Hp} {E : XK} (hr : Room 6 (Ar.deeper (envOfC "_law_single" (defScope s_law_single) s.heap.objs.size A.law_single.f cdv))) :
    ∃ t, PSs (cxOf CX0 P w K mg base ["stream", "logic", "rule", "sheet", "main", "rows", "boxed", "theory", "sure", "left", "right", "have", "told", "lines", "near", "row", "k", "one", "two", "more", "at", "premises"] "_law_single" (defScope s_law_single) A.law_single.f cdv Ar outer s H E).nox ((defBody s_law_single).drop 15) t ∧
      ∀ (Q : VK) (M : List Addr) (st : Addr) (H0 : Hp) (lg : Str) (r : Rl) (σ' : L2.St) (Hc : Hp), MidA M st H0 lg r σ' Hc → (∀ v ns th le ri ls l H', Is M H' (.tuple [clD ns th le ri, ppD ns (ls ++ [l])]) v → Sgl lg r ns th le ri ls l → StrAt M H' st → Adv [st] H0 H' → Q v H') → t { nx := fun _ H' => Q .non H', rt := Q } σ' Hc := by
  refine ⟨_, (pss_cons (ps_set (i := 21) sc_law_single.nd rfl (Or.inl rfl) (pe_slice sl_tupA (pe_tup (pa_cons pe_int (pa_cons pe_int pa_nil))) po_none (po_some (pv 11))))
  (pss_cut (ps_if (PW.pt (pw_and (pt_cmpR op_eq (pv 11) pe_int (nomark _)) (pw_and1 (pt_cmpR op_eq (pe_call (ok_law_next A) (hr.mono (by omega)) rfl A.law_next.m A.law_next.F.kp A.law_next.b .nil pass0 (pa_cons (pv 0) (pa_cons pe_int pa_nil))) pe_int (nomark _)))))
    (pss_one (ps_set (i := 21) sc_law_single.nd rfl (Or.inl rfl) (pe_call (ok_law_pick A) (hr.mono (by omega)) rfl A.law_pick.m A.law_pick.F.kp A.law_pick.b .nil pass0 (pa_cons (pv 0) (pa_cons (pe_tup (pa_cons (pe_tup (pa_cons pe_int (pa_cons pe_int pa_nil))) (pa_cons (pe_tup (pa_cons pe_int (pa_cons pe_int pa_nil))) (pa_cons (pe_tup (pa_cons pe_int (pa_cons pe_int pa_nil))) pa_nil)))) pa_nil)))))
    pss_nil)
  (pss_cons (ps_expr (pe_bm PySem.F.plainAttrs_list PySem.F.slot_list_append PySem.F.type_list_append mt_append (pv 13) (pa_cons (pe_tup (pa_cons (pv 9) (pa_cons (pv 10) (pa_cons (pv 2) (pa_cons (pv 21) (pa_cons (pv 4) pa_nil)))))) pa_nil)))
  (pss_one (ps_ret (pe_tup (pa_cons (pe_tup (pa_cons (pv 3) (pa_cons (pv 7) (pa_cons (pv 9) (pa_cons (pv 10) pa_nil))))) (pa_cons (pe_tup (pa_cons (pv 3) (pa_cons (pv 13) pa_nil))) pa_nil)))))))), ?_⟩
  rintro Q M st H0 lg r σ' Hc ⟨⟨S, D, Ls, N, th, le, ri, mi, sv, tv, y15, y16, y17, y18, y19, y20, lvs, ns, thN, leN, riN, ks, rfl, Sh, ms, hLs, lsM, ils, tth, rth, cth, tle, rle, tri, rri, kl, hk, n1, n2, c0, a⟩⟩ q
  have al1 := Sh.al
  have sM1 := Sh.sM1
  have lsS : Ls ≠ st := fun z => lsM (by rw [z]; exact ms)
  walk_at "rd"
  refine ⟨by show 2 ≤ sizeLine; decide, fun p np => ?_⟩
  have b : Adv [] Hc (upd Hc p (.tup [.int 1, .int 2])) := Adv.new np
  have tp : Tp (Ls :: M) (upd Hc p (.tup [.int 1, .int 2])) p [.int 1, .int 2] := Tp.of upd_same (not_mem_new al1 np)
  replace Sh := Sh.same b
  replace hLs := b.same _ _ hLs
  replace ils := ils.adv b.nil
  replace tth := tth.adv b.nil
  replace tle := tle.adv b.nil
  replace tri := tri.adv b.nil
  replace a := a.trans (Adv.nil b)
  generalize (upd Hc p (.tup [.int 1, .int 2])) = H1 at b tp Sh hLs ils tth tle tri a
  clear b np al1
  walk_at "rd"
  refine rd_slM A.W Sh.al tp fun pr H2 tpr b => ?_
  replace Sh := Sh.same b
  replace hLs := b.same _ _ hLs
  replace ils := ils.adv b.nil
  replace tth := tth.adv b.nil
  replace tle := tle.adv b.nil
  replace tri := tri.adv b.nil
  replace a := a.trans (Adv.nil b)
  clear b tp
  have ec : cutV [V.int 1, V.int 2] none (some (r.cnt : Nat)) = nVl ([1, 2].take r.cnt) := by cases r <;> decide
  rw [ec] at tpr
  walk_at "rd"
  refine ⟨fun σ' H' => ∃ (pr : Addr) (prN : List Nat), σ' = [some (.ref st), some (.str lg), some (.str r.str), some (.ref S), some (.int mi), some (.ref D), some (.bl (logicB lg)), some (.ref th), some sv, some (.ref le), some (.ref ri), some (.int (r.cnt : Nat)), some tv, some (.ref Ls), some (.ref N), y15, y16, y17, y18, y19, y20, some (.ref pr)] ∧
    ShS (Ls :: M) st S D lg ns H' ∧ H' Ls = some (.lst lvs) ∧ IsDs (Ls :: M) H' ((line0 :: ks).map Ln.data) lvs ∧ Tp (Ls :: M) H' th (nVl thN) ∧ Tp (Ls :: M) H' le (nVl leN) ∧ Tp (Ls :: M) H' ri (nVl riN) ∧ Tp (Ls :: M) H' pr (nVl prN) ∧ prN.length = r.cnt ∧ (∀ p ∈ prN, p < r.cnt + 1) ∧ Adv [st] H0 H', ?_, ?_⟩
  · have l1 : ([1, 2].take r.cnt).length = r.cnt := by cases r <;> rfl
    have l2 : ∀ p ∈ [1, 2].take r.cnt, p < r.cnt + 1 := by cases r <;> decide
    walk_at "rd"
    refine iteB (fun e => ?_) (fun e => ?_)
    · have ec2 : r.cnt = 2 := by have := of_decide_eq_true e; injection this with this; omega
      walk_at "rd"
      refine ⟨st, 4, _, rfl, Sh.str, by decide, by decide, fun d H3 d0 d1 hs3 a3 => ?_⟩
      replace Sh := Sh.next a3 hs3
      replace hLs := a3 _ _ (notin1 lsS) hLs
      replace ils := ils.adv (a3.more sM1)
      replace tth := tth.adv (a3.more sM1)
      replace tle := tle.adv (a3.more sM1)
      replace tri := tri.adv (a3.more sM1)
      replace tpr := tpr.adv (a3.more sM1)
      replace a := a.trans a3
      clear a3 hs3
      walk_at "rd"
      refine iteB (fun e2 => ?_) (fun e2 => ?_)
      · walk_at "rd"
        refine ⟨by show 2 ≤ sizeLine; decide, fun q1 n1 => ?_⟩
        have b1 : Adv [] H3 (upd H3 q1 (.tup [.int 2, .int 1])) := Adv.new n1
        have h1 : (upd H3 q1 (.tup [.int 2, .int 1])) q1 = some (.tup [.int 2, .int 1]) := upd_same
        have m1 := not_mem_new Sh.al n1
        generalize (upd H3 q1 (.tup [.int 2, .int 1])) = H4 at b1 h1
        walk_at "rd"
        refine ⟨by show 2 ≤ sizeLine; decide, fun q2 n2 => ?_⟩
        have b2 : Adv [] H4 (upd H4 q2 (.tup [.int 1, .int 1])) := Adv.new n2
        have h2 : (upd H4 q2 (.tup [.int 1, .int 1])) q2 = some (.tup [.int 1, .int 1]) := upd_same
        have m2 := not_mem_new (Sh.same b1).al n2
        generalize (upd H4 q2 (.tup [.int 1, .int 1])) = H5 at b2 h2
        walk_at "rd"
        refine ⟨by show 2 ≤ sizeLine; decide, fun q3 n3 => ?_⟩
        have b3 : Adv [] H5 (upd H5 q3 (.tup [.int 2, .int 2])) := Adv.new n3
        have h3 : (upd H5 q3 (.tup [.int 2, .int 2])) q3 = some (.tup [.int 2, .int 2]) := upd_same
        have m3 := not_mem_new ((Sh.same b1).same b2).al n3
        generalize (upd H5 q3 (.tup [.int 2, .int 2])) = H6 at b3 h3
        walk_at "rd"
        refine ⟨by show 3 ≤ sizeLine; decide, fun q4 n4 => ?_⟩
        have b4 : Adv [] H6 (upd H6 q4 (.tup [.ref q1, .ref q2, .ref q3])) := Adv.new n4
        have h4 : (upd H6 q4 (.tup [.ref q1, .ref q2, .ref q3])) q4 = some (.tup [.ref q1, .ref q2, .ref q3]) := upd_same
        have m4 := not_mem_new (((Sh.same b1).same b2).same b3).al n4
        have h3 := b4.same _ _ h3
        have h2 := (b3.trans b4).same _ _ h2
        have h1 := (b2.trans (b3.trans b4)).same _ _ h1
        have b := b1.trans (b2.trans (b3.trans b4))
        generalize (upd H6 q4 (.tup [.ref q1, .ref q2, .ref q3])) = H7 at b4 h4 h3 h2 h1 b
        clear b1 b2 b3 b4 n1 n2 n3 n4
        replace Sh := Sh.same b
        replace hLs := b.same _ _ hLs
        replace ils := ils.adv b.nil
        replace tth := tth.adv b.nil
        replace tle := tle.adv b.nil
        replace tri := tri.adv b.nil
        replace a := a.trans (Adv.nil b)
        clear b tpr
        refine ⟨st, q4, [.ref q1, .ref q2, .ref q3], _, rfl, Sh.str, .inr h4, fun z => m4 (by rw [z]; exact Sh.ms), by simp, by simp, fun x H8 hx hs8 a8 => ?_⟩
        replace Sh := Sh.next a8 hs8
        replace hLs := a8 _ _ (notin1 lsS) hLs
        replace ils := ils.adv (a8.more sM1)
        replace tth := tth.adv (a8.more sM1)
        replace tle := tle.adv (a8.more sM1)
        replace tri := tri.adv (a8.more sM1)
        replace a := a.trans a8
        have t1 := (Tp.of h1 m1).adv (a8.more sM1)
        have t2 := (Tp.of h2 m2).adv (a8.more sM1)
        have t3 := (Tp.of h3 m3).adv (a8.more sM1)
        clear a8 hs8 h1 h2 h3 h4
        walk_at "rd"
        simp only [List.mem_cons, List.not_mem_nil, or_false] at hx
        rcases hx with rfl | rfl | rfl
        · exact ⟨q1, [2, 1], rfl, Sh, hLs, ils, tth, tle, tri, t1, by rw [ec2]; rfl, by rw [ec2]; decide, a⟩
        · exact ⟨q2, [1, 1], rfl, Sh, hLs, ils, tth, tle, tri, t2, by rw [ec2]; rfl, by rw [ec2]; decide, a⟩
        · exact ⟨q3, [2, 2], rfl, Sh, hLs, ils, tth, tle, tri, t3, by rw [ec2]; rfl, by rw [ec2]; decide, a⟩
      · walk_at "rd"
        exact ⟨pr, _, rfl, Sh, hLs, ils, tth, tle, tri, tpr, l1, l2, a⟩
    · walk_at "rd"
      exact ⟨pr, _, rfl, Sh, hLs, ils, tth, tle, tri, tpr, l1, l2, a⟩
  · clear Sh hLs ils tth tle tri tpr a
    rintro σ' H3 ⟨pr, prN, rfl, Sh, hLs, ils, tth, tle, tri, tpr, l1, l2, a⟩
    have lvl := ils.len
    rw [List.length_map, List.length_cons] at lvl
    have cnt2 : r.cnt ≤ 2 := by cases r <;> decide
    walk_at "rd"
    refine ⟨by show 5 ≤ sizeLine; decide, fun t nt => ?_⟩
    have tM := not_mem_new Sh.al nt
    have b : Adv [] H3 (upd H3 t (.tup [.ref le, .ref ri, .str r.str, .ref pr, .int mi])) := Adv.new nt
    have ht : (upd H3 t (.tup [.ref le, .ref ri, .str r.str, .ref pr, .int mi])) t = some (.tup [.ref le, .ref ri, .str r.str, .ref pr, .int mi]) := upd_same
    replace Sh := Sh.same b
    replace hLs := b.same _ _ hLs
    replace ils := ils.adv b.nil
    replace tth := tth.adv b.nil
    replace tle := tle.adv b.nil
    replace tri := tri.adv b.nil
    replace tpr := tpr.adv b.nil
    replace a := a.trans (Adv.nil b)
    generalize (upd H3 t (.tup [.ref le, .ref ri, .str r.str, .ref pr, .int mi])) = H4 at b ht Sh hLs ils tth tle tri tpr a
    clear b nt
    walk_at "rd"
    refine rd_app hLs (by rw [lvl, sizeLine_eq]; omega) ?_
    have isL : Is (Ls :: M) H4 (Ln.mk leN riN r prN mi).data (.ref t) := .tup ht tM (.cons (.tp tle (nD_is _)) (.cons (.tp tri (nD_is _)) (.cons .str (.cons (.tp tpr (nD_is _)) (.cons .int .nil)))))
    have il2 : IsDs (Ls :: M) H4 ((line0 :: ks ++ [Ln.mk leN riN r prN mi]).map Ln.data) (lvs ++ [.ref t]) := by
      rw [List.map_append]
      exact ils.app (.one isL)
    have sN : ∀ b ∈ [Ls], b ∈ Ls :: M := by simp
    have b : Adv [Ls] H4 (upd H4 Ls (.lst (lvs ++ [.ref t]))) := Adv.set (by simp)
    have hLs2 : (upd H4 Ls (.lst (lvs ++ [.ref t]))) Ls = some (.lst (lvs ++ [.ref t])) := upd_same
    replace il2 := il2.adv (b.more sN)
    replace tth := tth.adv (b.more sN)
    replace tle := tle.adv (b.more sN)
    replace tri := tri.adv (b.more sN)
    have hs5 : StrAt (Ls :: M) (upd H4 Ls (.lst (lvs ++ [.ref t]))) st := Sh.str.adv b (notin1 lsS.symm) (by simp)
    have a5 : Adv [st] H0 (upd H4 Ls (.lst (lvs ++ [.ref t]))) := a.mut c0
    obtain ⟨rs, hS, hrs⟩ := Sh.hS
    have S1 : S ≠ Ls := fun z => Sh.sM (by rw [z]; simp)
    have hS5 := b _ _ (notin1 S1) hS
    have hrs5 := hrs.adv (b.more sN)
    have al5 : ∀ x ∈ Ls :: M, (upd H4 Ls (.lst (lvs ++ [.ref t]))) x ≠ none := alloc_adv Sh.al b (by simp [upd_same])
    have SM0 : S ∉ M := fun z => Sh.sM (List.mem_cons_of_mem _ z)
    have ok := Sh.ok
    have h0 := Sh.h0
    have nl := Sh.nl
    have hD := Sh.hD
    generalize (upd H4 Ls (.lst (lvs ++ [.ref t]))) = H5 at b hLs2 il2 tth tle tri hs5 a5 hS5 hrs5 al5
    clear b a hS hrs hLs ils tpr ht Sh hD
    walk_at "rd"
    refine ⟨by show 4 ≤ sizeLine; decide, fun u1 m1 => ?_⟩
    have b1 : Adv [] H5 (upd H5 u1 (.tup [.ref S, .ref th, .ref le, .ref ri])) := Adv.new m1
    have h1 : (upd H5 u1 (.tup [.ref S, .ref th, .ref le, .ref ri])) u1 = some (.tup [.ref S, .ref th, .ref le, .ref ri]) := upd_same
    have u1M := not_mem_new al5 m1
    generalize (upd H5 u1 (.tup [.ref S, .ref th, .ref le, .ref ri])) = H6 at b1 h1
    walk_at "rd"
    refine ⟨by show 2 ≤ sizeLine; decide, fun u2 m2 => ?_⟩
    have b2 : Adv [] H6 (upd H6 u2 (.tup [.ref S, .ref Ls])) := Adv.new m2
    have h2 : (upd H6 u2 (.tup [.ref S, .ref Ls])) u2 = some (.tup [.ref S, .ref Ls]) := upd_same
    have u2M := not_mem_new (alloc_adv al5 b1 (by simp)) m2
    generalize (upd H6 u2 (.tup [.ref S, .ref Ls])) = H7 at b2 h2
    walk_at "rd"
    refine ⟨by show 2 ≤ sizeLine; decide, fun u3 m3 => ?_⟩
    have b3 : Adv [] H7 (upd H7 u3 (.tup [.ref u1, .ref u2])) := Adv.new m3
    have h3 : (upd H7 u3 (.tup [.ref u1, .ref u2])) u3 = some (.tup [.ref u1, .ref u2]) := upd_same
    have u3M := not_mem_new (alloc_adv al5 (b1.trans b2) (by simp)) m3
    have b := b1.trans (b2.trans b3)
    have lessM : ∀ x ∈ M, x ∈ Ls :: M := fun x hx => List.mem_cons_of_mem _ hx
    have nM : ∀ {x : Addr}, x ∉ Ls :: M → x ∉ M := fun {x} h z => h (List.mem_cons_of_mem _ z)
    refine q (.ref u3) ns thN leN riN (line0 :: ks) ⟨leN, riN, r, prN, mi⟩ _ ?_ ?_ ((hs5.less lessM).same b) (a5.trans (Adv.nil b))
    · have iS : Is M (upd H7 u3 (.tup [.ref u1, .ref u2])) (.list (ns.map Nd.data)) (.ref S) := .lst (b.same _ _ hS5) SM0 ((hrs5.adv b.nil).less lessM)
      refine .tup h3 (nM u3M) (.cons (.tup ((b2.trans b3).same _ _ h1) (nM u1M) (.cons iS (.cons ((Is.tp (tth.adv b.nil) (nD_is _)).less lessM) (.cons ((Is.tp (tle.adv b.nil) (nD_is _)).less lessM) (.cons ((Is.tp (tri.adv b.nil) (nD_is _)).less lessM) .nil)))))
        (.cons (.tup (b3.same _ _ h2) (nM u2M) (.cons iS (.cons (.lst (b.same _ _ hLs2) lsM ((il2.adv b.nil).less lessM)) .nil))) .nil))
    · exact sgl_of (lg := lg) (l := ⟨leN, riN, r, prN, mi⟩) (ks := ks) ok h0 (by omega) rth cth rle rri hk kl l1 (by rw [kl]; exact l2) n1 n2
end

set_option Elab.async false
set_option linter.all false
set_option maxRecDepth 100000
set_option maxHeartbeats 4000000
open PySem PySem.Spec PyProof.Rows L2 LL
open C8 (pss_cut)
section
variable [KW]
variable {P : Program} {w : World} {K : PySem.W.Frag} {mg : Str → Option Value} {base : Heap}
/-! ### _law_single: the lines of the premises -/
/-- what is told, or nothing -/
def ToldV (M : List Addr) (H : Hp) (tv : V) (td : Option (List (List Nat × List Nat))) : Prop := match td with
  | none => tv = .non
  | some l => Is M H (.list (l.map sidesL)) tv
theorem ToldV.adv {M : List Addr} {H H' : Hp} {tv : V} {td : Option (List (List Nat × List Nat))} (x : ToldV M H tv td) (a : Adv M H H') : ToldV M H' tv td := by
  cases td with
  | none => exact x
  | some l => exact Is.adv x a
structure TdOk (n c : Nat) (td : Option (List (List Nat × List Nat))) : Prop where
  ok : ∀ l, td = some l → l.length = c ∧ ∀ p ∈ l, (∀ x ∈ p.1, x < n) ∧ (∀ x ∈ p.2, x < n) ∧ p.1.length ≤ 1000 ∧ p.2.length ≤ 1000
structure Bd (M : List Addr) (st : Addr) (H0 : Hp) (Ls S D N th le ri : Addr) (lg : Str) (ns : List Nd) (thN leN riN nl : List Nat) (tv : V) (td : Option (List (List Nat × List Nat))) (lvs : List V) (ds : List PyData) (H : Hp) : Prop where
  Sh : ShS (Ls :: M) st S D lg ns H
  hLs : H Ls = some (.lst lvs)
  ils : IsDs (Ls :: M) H ds lvs
  tth : Tp (Ls :: M) H th (nVl thN)
  tle : Tp (Ls :: M) H le (nVl leN)
  tri : Tp (Ls :: M) H ri (nVl riN)
  hN : H N = some (.lst (nVl nl))
  nN : N ∉ Ls :: M
  itv : ToldV (Ls :: M) H tv td
  a : Adv [st] H0 H
  lsM : Ls ∉ M
  ms : st ∈ M
  c0 : H0 Ls = none
section
variable {M : List Addr} {st : Addr} {H0 H H' : Hp} {Ls S D N th le ri : Addr} {lg : Str} {ns : List Nd} {thN leN riN nl : List Nat} {tv : V} {td : Option (List (List Nat × List Nat))} {lvs : List V} {ds : List PyData}
theorem Bd.lsS (x : Bd M st H0 Ls S D N th le ri lg ns thN leN riN nl tv td lvs ds H) : Ls ≠ st := fun z => x.lsM (by rw [z]; exact x.ms)
theorem Bd.next (x : Bd M st H0 Ls S D N th le ri lg ns thN leN riN nl tv td lvs ds H) (a : Adv [st] H H') (hs : StrAt (Ls :: M) H' st) : Bd M st H0 Ls S D N th le ri lg ns thN leN riN nl tv td lvs ds H' := by
  have m := x.Sh.sM1
  exact ⟨x.Sh.next a hs, a _ _ (notin1 x.lsS) x.hLs, x.ils.adv (a.more m), x.tth.adv (a.more m), x.tle.adv (a.more m), x.tri.adv (a.more m), a _ _ (fun z => x.nN (m _ z)) x.hN, x.nN, x.itv.adv (a.more m), x.a.trans a, x.lsM, x.ms, x.c0⟩
theorem Bd.same (x : Bd M st H0 Ls S D N th le ri lg ns thN leN riN nl tv td lvs ds H) (a : Adv [] H H') : Bd M st H0 Ls S D N th le ri lg ns thN leN riN nl tv td lvs ds H' := x.next (Adv.nil a) (x.Sh.str.same a)
theorem Bd.app {d : PyData} {v : V} (x : Bd M st H0 Ls S D N th le ri lg ns thN leN riN nl tv td lvs ds H) (i : Is (Ls :: M) H d v) : Bd M st H0 Ls S D N th le ri lg ns thN leN riN nl tv td (lvs ++ [v]) (ds ++ [d]) (upd H Ls (.lst (lvs ++ [v]))) := by
  have b : Adv [Ls] H (upd H Ls (.lst (lvs ++ [v]))) := Adv.set (by simp)
  have m : ∀ y ∈ [Ls], y ∈ Ls :: M := by simp
  obtain ⟨rs, hS, hrs⟩ := x.Sh.hS
  have S1 : S ≠ Ls := fun z => x.Sh.sM (by rw [z]; simp)
  have D1 : D ≠ Ls := fun z => x.Sh.dM (by rw [z]; simp)
  have N1 : N ≠ Ls := fun z => x.nN (by rw [z]; simp)
  exact ⟨⟨x.Sh.str.adv b (notin1 x.lsS.symm) (by simp), x.Sh.ms, alloc_adv x.Sh.al b (by simp [upd_same]), x.Sh.sM, ⟨rs, b _ _ (notin1 S1) hS, hrs.adv (b.more m)⟩, x.Sh.dM, b _ _ (notin1 D1) x.Sh.hD, x.Sh.ok, x.Sh.h0, x.Sh.nl⟩,
    upd_same, (x.ils.app (.one i)).adv (b.more m), x.tth.adv (b.more m), x.tle.adv (b.more m), x.tri.adv (b.more m), b _ _ (notin1 N1) x.hN, x.nN, x.itv.adv (b.more m), x.a.mut x.c0, x.lsM, x.ms, x.c0⟩
end
def repN (n : Nat) (l : List Nat) : List Nat := (List.replicate n l).flatten
theorem rep_nVl (n : Nat) (l : List Nat) : (List.replicate n (nVl l)).flatten = nVl (repN n l) := by
  unfold repN nVl
  rw [List.map_flatten, List.map_replicate]
theorem rep_mem {n : Nat} {l : List Nat} {x : Nat} (h : x ∈ repN n l) : x ∈ l := by
  unfold repN at h
  obtain ⟨m, hm, hx⟩ := List.mem_flatten.mp h
  rw [List.eq_of_mem_replicate hm] at hx
  exact hx
theorem rep_len (n : Nat) (l : List Nat) : (repN n l).length = n * l.length := by
  unfold repN
  rw [List.length_flatten, List.map_replicate, List.sum_replicate_nat]
theorem rep_one (l : List Nat) : repN 1 l = l := by unfold repN; simp
/-- what stands when the first line is written and the near rows are there -/
structure MidB (M : List Addr) (st : Addr) (H0 : Hp) (lg : Str) (r : Rl) (σ : L2.St) (H : Hp) : Prop where
  ex : ∃ (S D Ls N th le ri : Addr) (mi : Int) (sv tv : V) (y15 : Option V) (lvs : List V) (ns : List Nd) (thN leN riN nl : List Nat) (td : Option (List (List Nat × List Nat))),
    σ = [some (.ref st), some (.str lg), some (.str r.str), some (.ref S), some (.int mi), some (.ref D), some (.bl (logicB lg)), some (.ref th), some sv, some (.ref le), some (.ref ri), some (.int (r.cnt : Nat)), some tv, some (.ref Ls), some (.ref N), y15, none, none, none, none, none, none] ∧
    Bd M st H0 Ls S D N th le ri lg ns thN leN riN nl tv td lvs [line0.data] H ∧ TdOk ns.length r.cnt td ∧ nl ≠ [] ∧ (∀ x ∈ nl, x < ns.length) ∧ nl.length ≤ 1000 ∧ RwO ns.length thN ∧ (if logicB lg = true then 0 ∈ thN else thN = []) ∧
    RwO ns.length leN ∧ RwO ns.length riN ∧ leN.length ≤ 100 ∧ riN.length ≤ 100 ∧ (r = .no → mi = -1) ∧ (r ≠ .no → ∃ m : Nat, mi = m ∧ m < ns.length)
theorem single3 (A : All K mg w) {cdv : Value} {Ar : Around} {outer : List Env} {s : Shared} {H : Hp} {E : XK} (hr : Room 6 (Ar.deeper (envOfC "_law_single" (defScope s_law_single) s.heap.objs.size A.law_single.f cdv))) :
    ∃ t, PSs (cxOf CX0 P w K mg base ["stream", "logic", "rule", "sheet", "main", "rows", "boxed", "theory", "sure", "left", "right", "have", "told", "lines", "near", "row", "k", "one", "two", "more", "at", "premises"] "_law_single" (defScope s_law_single) A.law_single.f cdv Ar outer s H E).nox ((defBody s_law_single).drop 14) t ∧
      ∀ (Q : VK) (M : List Addr) (st : Addr) (H0 : Hp) (lg : Str) (r : Rl) (σ' : L2.St) (Hc : Hp), MidB M st H0 lg r σ' Hc → (∀ v ns th le ri ls l H', Is M H' (.tuple [clD ns th le ri, ppD ns (ls ++ [l])]) v → Sgl lg r ns th le ri ls l → StrAt M H' st → Adv [st] H0 H' → Q v H') → t { nx := fun _ H' => Q .non H', rt := Q } σ' Hc := by
  obtain ⟨t4, h4, q4⟩ := single4 (P := P) (base := base) (s := s) (outer := outer) (H := H) (E := E) (cdv := cdv) (Ar := Ar) A hr
  refine ⟨_, (pss_cut (ps_for PassesOwn.never rfl (pi_range1 rfl A.T.range (pa_cons (pv 11) pa_nil)) (pg_name (i := 16) sc_law_single.nd rfl (Or.inl rfl))
    (pss_cut (ps_asg (pe_ifExp (pt_cmpR op_isN (pv 12) pe_non (nomark _)) (pe_tup (pa_cons (pe_callTy call_list_of (by rfl) A.T.list (by decide +kernel) (pa_cons (pv 9) pa_nil)) (pa_cons (pe_callTy call_list_of (by rfl) A.T.list (by decide +kernel) (pa_cons (pv 10) pa_nil)) pa_nil))) (pe_ix ix_list (pv 12) (pv 16) (fun _ _ => rfl))) (pg_tup rfl (pgs_cons (pg_name (i := 17) sc_law_single.nd rfl (Or.inl rfl)) (pgs_cons (pg_name (i := 18) sc_law_single.nd rfl (Or.inl rfl)) pgs_nil))))
  (pss_cut (ps_set (i := 19) sc_law_single.nd rfl (Or.inl rfl) (pe_ifExp (pt_cmpR op_eq (pe_call (ok_law_next A) (hr.mono (by omega)) rfl A.law_next.m A.law_next.F.kp A.law_next.b .nil pass0 (pa_cons (pv 0) (pa_cons pe_int pa_nil))) pe_int (nomark _)) (pe_lst pa_nil) (pe_lst (pa_cons (pe_call (ok_law_pick A) (hr.mono (by omega)) rfl A.law_pick.m A.law_pick.F.kp A.law_pick.b .nil pass0 (pa_cons (pv 0) (pa_cons (pe_ifExp (pt_cmpR op_gt (pe_call (ok_law_next A) (hr.mono (by omega)) rfl A.law_next.m A.law_next.F.kp A.law_next.b .nil pass0 (pa_cons (pv 0) (pa_cons pe_int pa_nil))) pe_int (nomark _)) (pv 14) (pv 5)) pa_nil))) pa_nil))))
  (pss_cons (ps_set (i := 20) sc_law_single.nd rfl (Or.inl rfl) (pe_call (ok_law_next A) (hr.mono (by omega)) rfl A.law_next.m A.law_next.F.kp A.law_next.b .nil pass0 (pa_cons (pv 0) (pa_cons pe_int pa_nil))))
  (pss_cons (ps_set (i := 17) sc_law_single.nd rfl (Or.inl rfl) (pe_call (ok_law_sides A) (hr.mono (by omega)) rfl A.law_sides.m A.law_sides.F.kp A.law_sides.b .nil pass0 (pa_cons (pv 0) (pa_cons (pv 17) (pa_cons pe_int (pa_cons (pe_op op_cat (pe_op op_rep (pv 19) (pv 20)) (pe_op op_rep (pe_lst (pa_cons pe_int pa_nil)) (pe_callTy call_int1 (by rfl) A.T.int (by decide +kernel) (pa_cons (pe_not (pv 6)) pa_nil)))) pa_nil))))))
  (pss_cons (ps_set (i := 18) sc_law_single.nd rfl (Or.inl rfl) (pe_call (ok_law_sides A) (hr.mono (by omega)) rfl A.law_sides.m A.law_sides.F.kp A.law_sides.b .nil pass0 (pa_cons (pv 0) (pa_cons (pv 18) (pa_cons pe_int (pa_cons (pe_op op_rep (pv 19) (pe_op op_sub pe_int (pv 20))) pa_nil))))))
  (pss_one (ps_expr (pe_bm PySem.F.plainAttrs_list PySem.F.slot_list_append PySem.F.type_list_append mt_append (pv 13) (pa_cons (pe_ifExp (pt_val (pv 6)) (pe_tup (pa_cons (pv 17) (pa_cons (pv 18) (pa_cons pe_str (pa_cons (pe_tup (pa_cons pe_int pa_nil)) (pa_cons pe_int pa_nil)))))) (pe_tup (pa_cons (pv 17) (pa_cons (pv 18) (pa_cons pe_str (pa_cons (pe_tup pa_nil) (pa_cons (pe_un un_neg pe_int) pa_nil))))))) pa_nil))))))))))
  h4), ?_⟩
  rintro Q M st H0 lg r σ' Hc ⟨⟨S, D, Ls, N, th, le, ri, mi, sv, tv, y15, lvs, ns, thN, leN, riN, nl, td, rfl, B, tdo, ne, nb, nz, rth, cth, rle, rri, zle, zri, n1, n2⟩⟩ q
  refine ⟨fun σ' H' => MidA M st H0 lg r σ' H', ?_, fun σ' H' z => q4 Q M st H0 lg r σ' H' z q⟩
  clear q q4 h4
  have cnt2 : r.cnt ≤ 2 := by cases r <;> decide
  walk_at "rd"
  refine ⟨by omega, by omega, ?_⟩
  refine for_range (lo := 0) (n := ((r.cnt : Nat) : Int).toNat) (fun i σ' H' => ∃ (y16 y17 y18 y19 y20 : Option V) (lvs : List V) (ks : List Ln), σ' = [some (.ref st), some (.str lg), some (.str r.str), some (.ref S), some (.int mi), some (.ref D), some (.bl (logicB lg)), some (.ref th), some sv, some (.ref le), some (.ref ri), some (.int (r.cnt : Nat)), some tv, some (.ref Ls), some (.ref N), y15, y16, y17, y18, y19, y20, none] ∧
    Bd M st H0 Ls S D N th le ri lg ns thN leN riN nl tv td lvs ((line0 :: ks).map Ln.data) H' ∧ ks.length = i ∧ ∀ k ∈ ks, FstL (logicB lg) ns.length k)
    ⟨_, _, _, _, _, lvs, [], rfl, B, rfl, by simp⟩ ?_ ?_
  · rintro i σ' H' hi ⟨y16, y17, y18, y19, y20, lvs, ks, rfl, B, kl, hk⟩
    have hi : i < r.cnt := by omega
    rw [Int.zero_add]
    walk_at "rd"
    refine ⟨fun σ' H' => ∃ (o1 o2 : Addr) (l1 l2 : List Nat), σ' = [some (.ref st), some (.str lg), some (.str r.str), some (.ref S), some (.int mi), some (.ref D), some (.bl (logicB lg)), some (.ref th), some sv, some (.ref le), some (.ref ri), some (.int (r.cnt : Nat)), some tv, some (.ref Ls), some (.ref N), y15, some (.int (i : Nat)), some (.ref o1), some (.ref o2), y19, y20, none] ∧ Bd M st H0 Ls S D N th le ri lg ns thN leN riN nl tv td lvs ((line0 :: ks).map Ln.data) H' ∧
      H' o1 = some (.lst (nVl l1)) ∧ o1 ∉ Ls :: M ∧ H' o2 = some (.lst (nVl l2)) ∧ o2 ∉ Ls :: M ∧ (∀ x ∈ l1, x < ns.length) ∧ (∀ x ∈ l2, x < ns.length) ∧ l1.length ≤ 1000 ∧ l2.length ≤ 1000, ?_, ?_⟩
    · cases td with
      | none =>
        have etv : tv = .non := B.itv
        subst etv
        have sql := B.tle.sq (K := K) A.W
        have sqr := B.tri.sq (K := K) A.W
        walk_at "rd"
        intro o1 m1
        have b1 : Adv [] H' (upd H' o1 (.lst (nVl leN))) := Adv.new m1
        have h1 : (upd H' o1 (.lst (nVl leN))) o1 = some (.lst (nVl leN)) := upd_same
        have o1M := not_mem_new B.Sh.al m1
        have B1 := B.same b1
        have sqr1 := SqT.adv b1 sqr
        generalize (upd H' o1 (.lst (nVl leN))) = H1 at b1 h1 B1 sqr1
        clear sql sqr
        walk_at "rd"
        intro o2 m2
        have b2 : Adv [] H1 (upd H1 o2 (.lst (nVl riN))) := Adv.new m2
        have h2 : (upd H1 o2 (.lst (nVl riN))) o2 = some (.lst (nVl riN)) := upd_same
        have o2M := not_mem_new B1.Sh.al m2
        have B2 := B1.same b2
        have h1 := b2.same _ _ h1
        generalize (upd H1 o2 (.lst (nVl riN))) = H2 at b2 h1 h2 B2
        clear sqr1
        walk_at "rd"
        refine ⟨by show 2 ≤ sizeLine; decide, fun t nt => ?_⟩
        have b3 : Adv [] H2 (upd H2 t (.tup [.ref o1, .ref o2])) := Adv.new nt
        walk_at "rd"
        refine rd_gtup (SqT.of upd_same) rfl ?_
        walk_at "rd"
        exact ⟨o1, o2, leN, riN, rfl, B2.same b3, b3.same _ _ h1, o1M, b3.same _ _ h2, o2M, rle.lt, rri.lt, by omega, by omega⟩
      | some l =>
        obtain ⟨T, ts, rfl, TM, hT, its⟩ := Is.lstE B.itv
        obtain ⟨tl, tp⟩ := tdo.ok l rfl
        have ei : l[i]? = some l[i] := List.getElem?_eq_getElem (by omega)
        have hp := tp _ (List.mem_of_getElem? ei)
        generalize l[i] = pk at ei hp
        obtain ⟨x, hx, isx⟩ := its.get (i := i) (d := sidesL pk) (by rw [List.getElem?_map, ei]; rfl)
        obtain ⟨tk, uk, rfl, tpk, ik⟩ := isx.tupE
        obtain ⟨g1, g2, rfl, ik1, ik2⟩ := IsDs.two ik
        obtain ⟨o1, v1, rfl, o1M, hd1, id1⟩ := ik1.lstE
        obtain ⟨o2, v2, rfl, o2M, hd2, id2⟩ := ik2.lstE
        obtain rfl := nD_of id1
        obtain rfl := nD_of id2
        have sqk := tpk.sq (K := K) A.W
        clear its
        walk_at "rd"
        refine rd_gtup sqk rfl ?_
        walk_at "rd"
        exact ⟨o1, o2, pk.1, pk.2, rfl, B, hd1, o1M, hd2, o2M, hp.1, hp.2.1, hp.2.2.1, hp.2.2.2⟩
    · clear B
      rintro σ' H' ⟨o1, o2, l1, l2, rfl, B, ho1, o1M, ho2, o2M, b1, b2, z1, z2⟩
      have neS : ∀ {b : Addr}, b ∉ Ls :: M → b ∉ [st] := fun {b} h z => h (by rw [List.mem_singleton.mp z]; exact List.mem_cons_of_mem _ B.ms)
      walk_at "rd"
      refine ⟨fun σ' H' => ∃ (mo : Addr) (l3 : List Nat), σ' = [some (.ref st), some (.str lg), some (.str r.str), some (.ref S), some (.int mi), some (.ref D), some (.bl (logicB lg)), some (.ref th), some sv, some (.ref le), some (.ref ri), some (.int (r.cnt : Nat)), some tv, some (.ref Ls), some (.ref N), y15, some (.int (i : Nat)), some (.ref o1), some (.ref o2), some (.ref mo), y20, none] ∧ Bd M st H0 Ls S D N th le ri lg ns thN leN riN nl tv td lvs ((line0 :: ks).map Ln.data) H' ∧
        H' o1 = some (.lst (nVl l1)) ∧ H' o2 = some (.lst (nVl l2)) ∧ H' mo = some (.lst (nVl l3)) ∧ mo ∉ Ls :: M ∧ (∀ x ∈ l3, x < ns.length) ∧ l3.length ≤ 1, ?_, ?_⟩
      · walk_at "rd"
        refine ⟨st, 3, _, rfl, B.Sh.str, by decide, by decide, fun d H1 d0 d1 hs1 a1 => ?_⟩
        replace B := B.next a1 hs1
        replace ho1 := a1 _ _ (neS o1M) ho1
        replace ho2 := a1 _ _ (neS o2M) ho2
        clear a1 hs1
        walk_at "rd"
        refine iteB (fun e => ?_) (fun e => ?_)
        · walk_at "rd"
          refine ⟨Nat.zero_le _, fun mo nm => ?_⟩
          have b : Adv [] H1 (upd H1 mo (.lst [])) := Adv.new nm
          have moM := not_mem_new B.Sh.al nm
          walk_at "rd"
          exact ⟨mo, [], rfl, B.same b, b.same _ _ ho1, b.same _ _ ho2, upd_same, moM, by simp, by simp⟩
        · walk_at "rd"
          refine ⟨st, 3, _, rfl, B.Sh.str, by decide, by decide, fun d2 H2 d20 d21 hs2 a2 => ?_⟩
          replace B := B.next a2 hs2
          replace ho1 := a2 _ _ (neS o1M) ho1
          replace ho2 := a2 _ _ (neS o2M) ho2
          clear a2 hs2
          have go : ∀ {P0 : Addr} {l0 : List Nat} {Q' : VK}, H2 P0 = some (.lst (nVl l0)) → P0 ∉ Ls :: M → l0 ≠ [] → (∀ x ∈ l0, x < ns.length) → l0.length ≤ 1000 → (∀ (k : Nat) H3, k < ns.length → Bd M st H0 Ls S D N th le ri lg ns thN leN riN nl tv td lvs ((line0 :: ks).map Ln.data) H3 → H3 o1 = some (.lst (nVl l1)) → H3 o2 = some (.lst (nVl l2)) → Q' (.int (k : Nat)) H3) →
              spPick [.ref st, .ref P0] H2 Q' E0 := fun {P0 l0 Q'} hp pM ne lt hz k => by
            refine ⟨st, P0, nVl l0, _, rfl, B.Sh.str, .inl hp, fun z => neS pM (by rw [z]; simp), ?_, by rw [nVl_len]; omega, fun x H3 hx hs3 a3 => ?_⟩
            · intro z
              have := nVl_len l0
              rw [z] at this
              exact ne (List.eq_nil_of_length_eq_zero this.symm)
            · obtain ⟨i, hi⟩ := List.getElem?_of_mem hx
              obtain ⟨j, hj, rfl⟩ := nVl_get hi
              exact k j H3 (lt j (List.mem_of_getElem? hj)) (B.next a3 hs3) (a3 _ _ (neS o1M) ho1) (a3 _ _ (neS o2M) ho2)
          have npos : 0 < ns.length := (List.getElem?_eq_some_iff.mp B.Sh.h0).1
          have nl30 := B.Sh.nl
          have rne : List.range ns.length ≠ [] := fun z => by have := congrArg List.length z; rw [List.length_range] at this; have : ns.length = 0 := this; omega
          walk_at "rd"
          refine iteB (fun e2 => ?_) (fun e2 => ?_)
          · walk_at "rd"
            refine go B.hN B.nN ne nb nz fun k H3 hk B ho1 ho2 => ?_
            walk_at "rd"
            refine ⟨by show 1 ≤ sizeLine; decide, fun mo nm => ?_⟩
            have b : Adv [] H3 (upd H3 mo (.lst [.int (k : Nat)])) := Adv.new nm
            have moM := not_mem_new B.Sh.al nm
            walk_at "rd"
            exact ⟨mo, [k], rfl, B.same b, b.same _ _ ho1, b.same _ _ ho2, upd_same, moM, by simpa using hk, by simp⟩
          · walk_at "rd"
            refine go B.Sh.hD B.Sh.dM rne (fun x hx => List.mem_range.mp hx) (by rw [List.length_range]; omega) fun k H3 hk B ho1 ho2 => ?_
            walk_at "rd"
            refine ⟨by show 1 ≤ sizeLine; decide, fun mo nm => ?_⟩
            have b : Adv [] H3 (upd H3 mo (.lst [.int (k : Nat)])) := Adv.new nm
            have moM := not_mem_new B.Sh.al nm
            walk_at "rd"
            exact ⟨mo, [k], rfl, B.same b, b.same _ _ ho1, b.same _ _ ho2, upd_same, moM, by simpa using hk, by simp⟩
      · clear B ho1 ho2
        rintro σ' H' ⟨mo, l3, rfl, B, ho1, ho2, hmo, moM, b3, z3⟩
        walk_at "rd"
        refine ⟨st, 2, _, rfl, B.Sh.str, by decide, by decide, fun d H1 d0 d1 hs1 a1 => ?_⟩
        replace B := B.next a1 hs1
        replace ho1 := a1 _ _ (neS o1M) ho1
        replace ho2 := a1 _ _ (neS o2M) ho2
        replace hmo := a1 _ _ (neS moM) hmo
        clear a1 hs1
        obtain ⟨j, rfl⟩ : ∃ j : Nat, d = (j : Int) := ⟨d.toNat, by omega⟩
        have hj : j < 2 := by omega
        have npos : 0 < ns.length := (List.getElem?_eq_some_iff.mp B.Sh.h0).1
        walk_at "rd"
        refine ⟨mo, (j : Int), nVl l3, rfl, rfl, hmo, by omega, by omega, ?_, fun p1 m1 => ?_⟩
        · rw [nVl_len, sizeLine_eq]
          have : l3.length * ((j : Nat) : Int).toNat ≤ 1 * 2 := Nat.mul_le_mul z3 (by omega)
          omega
        rw [Int.toNat_natCast, rep_nVl]
        have b1 : Adv [] H1 (upd H1 p1 (.lst (nVl (repN j l3)))) := Adv.new m1
        have hp1 : (upd H1 p1 (.lst (nVl (repN j l3)))) p1 = some (.lst (nVl (repN j l3))) := upd_same
        replace B := B.same b1
        replace ho1 := b1.same _ _ ho1
        replace ho2 := b1.same _ _ ho2
        replace hmo := b1.same _ _ hmo
        generalize (upd H1 p1 (.lst (nVl (repN j l3)))) = H2 at b1 hp1 B ho1 ho2 hmo
        clear b1 m1
        walk_at "rd"
        refine ⟨by show 1 ≤ sizeLine; decide, fun p2 m2 => ?_⟩
        have b1 : Adv [] H2 (upd H2 p2 (.lst [.int 0])) := Adv.new m2
        have hp2 : (upd H2 p2 (.lst [.int 0])) p2 = some (.lst (nVl [0])) := upd_same
        replace B := B.same b1
        replace ho1 := b1.same _ _ ho1
        replace ho2 := b1.same _ _ ho2
        replace hmo := b1.same _ _ hmo
        replace hp1 := b1.same _ _ hp1
        generalize (upd H2 p2 (.lst [.int 0])) = H3 at b1 hp1 hp2 B ho1 ho2 hmo
        clear b1 m2
        walk_at "rd"
        refine .inr ⟨_, rfl, ?_⟩
        have ekb : (if (!logicB lg) = true then (1 : Int) else 0) = ((if logicB lg = true then 0 else 1 : Nat) : Int) := by cases logicB lg <;> rfl
        rw [ekb]
        have kb1 : (if logicB lg = true then 0 else 1 : Nat) ≤ 1 := by split <;> omega
        have kb0 : ¬ logicB lg = true → (if logicB lg = true then 0 else 1 : Nat) = 1 := fun z => if_neg z
        generalize (if logicB lg = true then 0 else 1 : Nat) = kb at kb1 kb0
        clear ekb
        refine ⟨p2, (kb : Nat), nVl [0], rfl, rfl, hp2, by omega, by omega, ?_, fun p3 m3 => ?_⟩
        · rw [nVl_len, sizeLine_eq]
          show 1 * _ ≤ _
          omega
        rw [Int.toNat_natCast, rep_nVl]
        have b1 : Adv [] H3 (upd H3 p3 (.lst (nVl (repN kb [0])))) := Adv.new m3
        have hp3 : (upd H3 p3 (.lst (nVl (repN kb [0])))) p3 = some (.lst (nVl (repN kb [0]))) := upd_same
        replace B := B.same b1
        replace ho1 := b1.same _ _ ho1
        replace ho2 := b1.same _ _ ho2
        replace hmo := b1.same _ _ hmo
        replace hp1 := b1.same _ _ hp1
        generalize (upd H3 p3 (.lst (nVl (repN kb [0])))) = H4 at b1 hp1 hp3 B ho1 ho2 hmo
        clear b1 m3 hp2
        have r1 := rep_len j l3
        have r1' : j * l3.length ≤ 2 * 1 := Nat.mul_le_mul (by omega) z3
        have r2 : (repN kb [0]).length = kb * 1 := rep_len kb [0]
        refine rd_cat hp1 hp3 (by rw [nVl_len, nVl_len, sizeLine_eq]; omega) fun p4 m4 => ?_
        have ec : nVl (repN j l3) ++ nVl (repN kb [0]) = nVl (repN j l3 ++ repN kb [0]) := by unfold nVl; rw [List.map_append]
        rw [ec]
        have b1 : Adv [] H4 (upd H4 p4 (.lst (nVl (repN j l3 ++ repN kb [0])))) := Adv.new m4
        have hp4 : (upd H4 p4 (.lst (nVl (repN j l3 ++ repN kb [0])))) p4 = some (.lst (nVl (repN j l3 ++ repN kb [0]))) := upd_same
        have p4M := not_mem_new B.Sh.al m4
        replace B := B.same b1
        replace ho1 := b1.same _ _ ho1
        replace ho2 := b1.same _ _ ho2
        replace hmo := b1.same _ _ hmo
        generalize (upd H4 p4 (.lst (nVl (repN j l3 ++ repN kb [0])))) = H5 at b1 hp4 B ho1 ho2 hmo
        clear b1 m4 hp1 hp3 ec
        refine ⟨⟨Ls :: M, st, o1, p4, l1, repN j l3 ++ repN kb [0], 6, rfl, B.Sh.str, ho1, hp4, fun z => neS p4M (by rw [z]; simp), by omega, by rw [List.length_append]; omega, fun t1 out1 H6 nt1 ht1 asc1 mem1 sub1 len1 hs6 a6 => ?_⟩⟩
        have t1M := not_mem_new B.Sh.al nt1
        replace B := B.next a6 hs6
        replace ho2 := a6 _ _ (neS o2M) ho2
        replace hmo := a6 _ _ (neS moM) hmo
        have tp1 : Tp (Ls :: M) H6 t1 (nVl out1) := Tp.of ht1 t1M
        rw [List.length_append] at len1
        have rw1 : RwO ns.length out1 := ⟨asc1, fun x hx => by
          rcases mem1 x hx with h | h
          · exact b1 x h
          · rcases List.mem_append.mp h with h | h
            · exact b3 x (rep_mem h)
            · rw [List.mem_singleton.mp (rep_mem h)]; exact npos, by omega⟩
        have z01 : ¬ logicB lg = true → 0 ∈ out1 := fun z => sub1 0 (List.mem_append_right _ (by rw [kb0 z, rep_one]; simp))
        clear ho1 hp4 a6 hs6 ht1 nt1 asc1 mem1 sub1 len1 kb0 r2 r1 r1'
        walk_at "rd"
        refine ⟨mo, 1 - (j : Int), nVl l3, rfl, rfl, hmo, by omega, by omega, ?_, fun p1 m1 => ?_⟩
        · rw [nVl_len, sizeLine_eq]
          have : l3.length * (1 - ((j : Nat) : Int)).toNat ≤ 1 * 2 := Nat.mul_le_mul z3 (by omega)
          omega
        rw [show (1 - ((j : Nat) : Int)).toNat = 1 - j from by omega, rep_nVl]
        have b1 : Adv [] H6 (upd H6 p1 (.lst (nVl (repN (1 - j) l3)))) := Adv.new m1
        have hp1 : (upd H6 p1 (.lst (nVl (repN (1 - j) l3)))) p1 = some (.lst (nVl (repN (1 - j) l3))) := upd_same
        have p1M := not_mem_new B.Sh.al m1
        replace B := B.same b1
        replace ho2 := b1.same _ _ ho2
        replace tp1 := tp1.adv b1.nil
        generalize (upd H6 p1 (.lst (nVl (repN (1 - j) l3)))) = H7 at b1 hp1 B ho2 tp1
        clear b1 m1 hmo
        have r1 := rep_len (1 - j) l3
        have r1' : (1 - j) * l3.length ≤ 2 * 1 := Nat.mul_le_mul (by omega) z3
        refine ⟨⟨Ls :: M, st, o2, p1, l2, repN (1 - j) l3, 6, rfl, B.Sh.str, ho2, hp1, fun z => neS p1M (by rw [z]; simp), by omega, by omega, fun t2 out2 H8 nt2 ht2 asc2 mem2 sub2 len2 hs8 a8 => ?_⟩⟩
        have t2M := not_mem_new B.Sh.al nt2
        have sM1 := B.Sh.sM1
        replace B := B.next a8 hs8
        replace tp1 := tp1.adv (a8.more sM1)
        have tp2 : Tp (Ls :: M) H8 t2 (nVl out2) := Tp.of ht2 t2M
        have rw2 : RwO ns.length out2 := ⟨asc2, fun x hx => by
          rcases mem2 x hx with h | h
          · exact b2 x h
          · exact b3 x (rep_mem h), by omega⟩
        clear ho2 hp1 a8 hs8 ht2 nt2 asc2 mem2 sub2 len2 r1 r1' sM1
        have lvl := B.ils.len
        rw [List.length_map, List.length_cons, kl] at lvl
        have hLs8 := B.hLs
        walk_at "rd"
        clear hLs8
        refine iteB (fun eb => ?_) (fun eb => ?_)
        · walk_at "rd"
          refine ⟨by show 1 ≤ sizeLine; decide, fun p5 m5 => ?_⟩
          have b1 : Adv [] H8 (upd H8 p5 (.tup [.int 0])) := Adv.new m5
          have tp5 : Tp (Ls :: M) (upd H8 p5 (.tup [.int 0])) p5 (nVl [0]) := Tp.of upd_same (not_mem_new B.Sh.al m5)
          replace B := B.same b1
          replace tp1 := tp1.adv b1.nil
          replace tp2 := tp2.adv b1.nil
          generalize (upd H8 p5 (.tup [.int 0])) = H9 at b1 tp5 B tp1 tp2
          clear b1 m5
          walk_at "rd"
          refine ⟨by show 5 ≤ sizeLine; decide, fun t5 n5 => ?_⟩
          have b1 : Adv [] H9 (upd H9 t5 (.tup [.ref t1, .ref t2, .str "given", .ref p5, .int 0])) := Adv.new n5
          have t5M := not_mem_new B.Sh.al n5
          have isL : Is (Ls :: M) (upd H9 t5 (.tup [.ref t1, .ref t2, .str "given", .ref p5, .int 0])) (Ln.mk out1 out2 .giv [0] 0).data (.ref t5) :=
            .tup upd_same t5M (.cons (.tp (tp1.adv b1.nil) (nD_is _)) (.cons (.tp (tp2.adv b1.nil) (nD_is _)) (.cons .str (.cons (.tp (tp5.adv b1.nil) (nD_is _)) (.cons .int .nil)))))
          replace B := B.same b1
          walk_at "rd"
          refine rd_app B.hLs (by rw [lvl, sizeLine_eq]; omega) ?_
          have B2 := B.app isL
          refine ⟨_, _, _, _, _, lvs ++ [V.ref t5], ks ++ [Ln.mk out1 out2 .giv [0] 0], rfl, ?_, by rw [List.length_append, kl]; rfl, fun k hk' => ?_⟩
          · rw [← List.cons_append, List.map_append]
            exact B2
          · rcases List.mem_append.mp hk' with h | h
            · exact hk k h
            · rw [List.mem_singleton.mp h]
              exact ⟨rw1, rw2, by rw [if_pos eb]; exact ⟨rfl, rfl, rfl⟩⟩
        · have eb' : ¬ logicB lg = true := by simpa using eb
          walk_at "rd"
          refine ⟨by show 0 ≤ sizeLine; exact Nat.zero_le _, fun p5 m5 => ?_⟩
          have b1 : Adv [] H8 (upd H8 p5 (.tup [])) := Adv.new m5
          have tp5 : Tp (Ls :: M) (upd H8 p5 (.tup [])) p5 (nVl []) := Tp.of upd_same (not_mem_new B.Sh.al m5)
          replace B := B.same b1
          replace tp1 := tp1.adv b1.nil
          replace tp2 := tp2.adv b1.nil
          generalize (upd H8 p5 (.tup [])) = H9 at b1 tp5 B tp1 tp2
          clear b1 m5
          walk_at "rd"
          refine ⟨by show 5 ≤ sizeLine; decide, fun t5 n5 => ?_⟩
          have b1 : Adv [] H9 (upd H9 t5 (.tup [.ref t1, .ref t2, .str "no", .ref p5, .int (-1)])) := Adv.new n5
          have t5M := not_mem_new B.Sh.al n5
          have isL : Is (Ls :: M) (upd H9 t5 (.tup [.ref t1, .ref t2, .str "no", .ref p5, .int (-1)])) (Ln.mk out1 out2 .no [] (-1)).data (.ref t5) :=
            .tup upd_same t5M (.cons (.tp (tp1.adv b1.nil) (nD_is _)) (.cons (.tp (tp2.adv b1.nil) (nD_is _)) (.cons .str (.cons (.tp (tp5.adv b1.nil) (nD_is _)) (.cons .int .nil)))))
          replace B := B.same b1
          walk_at "rd"
          refine rd_app B.hLs (by rw [lvl, sizeLine_eq]; omega) ?_
          have B2 := B.app isL
          refine ⟨_, _, _, _, _, lvs ++ [V.ref t5], ks ++ [Ln.mk out1 out2 .no [] (-1)], rfl, ?_, by rw [List.length_append, kl]; rfl, fun k hk' => ?_⟩
          · rw [← List.cons_append, List.map_append]
            exact B2
          · rcases List.mem_append.mp hk' with h | h
            · exact hk k h
            · rw [List.mem_singleton.mp h]
              exact ⟨rw1, rw2, by rw [if_neg eb']; exact ⟨rfl, rfl, rfl, z01 eb'⟩⟩
  · rintro σ' H' ⟨y16, y17, y18, y19, y20, lvs, ks, rfl, B, kl, hk⟩
    exact ⟨⟨S, D, Ls, N, th, le, ri, mi, sv, tv, _, _, _, _, _, _, lvs, ns, thN, leN, riN, ks, rfl, B.Sh, B.ms, B.hLs, B.lsM, B.ils, B.tth, rth, cth, B.tle, rle, B.tri, rri, by omega, hk, n1, n2, B.c0, B.a⟩⟩
end

set_option Elab.async false
set_option linter.all false
set_option maxRecDepth 100000
set_option maxHeartbeats 4000000
open PySem PySem.Spec PyProof.Rows L2 LL
open C8 (pss_cut)
section
variable [KW]
variable {P : Program} {w : World} {K : PySem.W.Frag} {mg : Str → Option Value} {base : Heap}
/-! ### _law_single: what is told, the near rows -/
theorem rd_repM {W : World} (A : KWOk K W) {M : List Addr} {H : Hp} {a : Addr} {k : Nat} {Q : VK} (al : ∀ b ∈ M, H b ≠ none) (tp : Tp M H a (nVl [0])) (hk : k ≤ 1000) (q : ∀ r H', Tp M H' r (nVl (List.replicate k 0)) → Adv [] H H' → Q (.ref r) H') : rRepA K (.ref a) (.int (k : Nat)) H Q := by
  refine ⟨a, k, nVl [0], rfl, rfl, tp.sq A, by simp [nVl], hk, by simp [nVl], fun e => ?_, fun e p np => ?_⟩
  · subst e
    exact q a H tp (Adv.refl _ _)
  · have e1 : (List.replicate k (nVl [0])).flatten = nVl (List.replicate k 0) := by
      rw [rep_nVl]
      congr 1
      unfold repN
      rw [List.flatten_replicate_singleton]
    rw [e1]
    exact q p _ (Tp.of upd_same (not_mem_new al np)) (Adv.new np)
theorem ShS.fresh {M : List Addr} {st S D p : Addr} {lg : Str} {ns : List Nd} {H : Hp} {o : HO} (x : ShS M st S D lg ns H) (h : H p = none) : ShS (p :: M) st S D lg ns (upd H p o) := by
  obtain ⟨rs, hS, hrs⟩ := x.hS
  have b : Adv [] H (upd H p o) := Adv.new h
  have Sp : S ≠ p := ne_of_none hS h
  have Dp : D ≠ p := ne_of_none x.hD h
  refine ⟨(x.str.fresh h).same b, by simp [x.ms], fun y hy z => ?_, ?_, ⟨rs, b.same _ _ hS, (hrs.fresh h).adv b.nil⟩, ?_, b.same _ _ x.hD, x.ok, x.h0, x.nl⟩
  · rcases List.mem_cons.mp hy with e | hy
    · rw [e, upd_same] at z; cases z
    · exact x.al y hy (b.free (by simp) z)
  · simp only [List.mem_cons, not_or]; exact ⟨Sp, x.sM⟩
  · simp only [List.mem_cons, not_or]; exact ⟨Dp, x.dM⟩
theorem parts_lt {bx : Bool} {n : Nd} {i : Nat} (h : n.ok bx i = true) : ∀ p ∈ n.parts, p < i := by
  cases n with
  | no => intro p hp; cases hp
  | letter j => intro p hp; cases hp
  | bin o j k =>
    simp only [Nd.ok, Bool.and_eq_true, decide_eq_true_eq] at h
    intro p hp
    simp only [Nd.parts, List.mem_cons, List.not_mem_nil, or_false] at hp
    rcases hp with rfl | rfl
    · exact h.1
    · exact h.2
  | box j =>
    simp only [Nd.ok, Bool.and_eq_true, decide_eq_true_eq] at h
    intro p hp
    simp only [Nd.parts, List.mem_cons, List.not_mem_nil, or_false] at hp
    rw [hp]; exact h.2
theorem ndA_parts {bx : Bool} {ns : List Nd} (ok : okSheet bx ns) {m : Nat} (hm : m < ns.length) : ∀ p ∈ (ndA ns m).parts, p < ns.length := fun p hp => by
  have e : ns[m]? = some (ndA ns m) := by unfold ndA; rw [List.getElem?_eq_getElem hm]; rfl
  have := parts_lt (ok.2 m _ e) p hp
  omega
theorem parts_len (n : Nd) : n.parts.length ≤ 2 := by cases n <;> simp [Nd.parts]
theorem add_bd (r : Rl) (n : Nd) (m : Nat) : ∀ p ∈ addF r n m, (∀ x ∈ p.1, x = m ∨ x ∈ n.parts) ∧ (∀ x ∈ p.2, x = m ∨ x ∈ n.parts) ∧ p.1.length ≤ 2 ∧ p.2.length ≤ 2 := by
  have h2 := parts_len n
  have t1 : (n.parts.take 1).length ≤ 2 := Nat.le_trans (List.length_take_le _ _) (by omega)
  have d1 : (n.parts.drop 1).length ≤ 2 := by rw [List.length_drop]; omega
  have tm : ∀ x ∈ n.parts.take 1, x = m ∨ x ∈ n.parts := fun x hx => .inr (List.mem_of_mem_take hx)
  have dm : ∀ x ∈ n.parts.drop 1, x = m ∨ x ∈ n.parts := fun x hx => .inr (List.mem_of_mem_drop hx)
  have pm : ∀ x ∈ n.parts, x = m ∨ x ∈ n.parts := fun x hx => .inr hx
  have e0 : ∀ x ∈ ([] : List Nat), x = m ∨ x ∈ n.parts := fun x hx => by cases hx
  have em : ∀ x ∈ [m], x = m ∨ x ∈ n.parts := fun x hx => .inl (List.mem_singleton.mp hx)
  have z0 : ([] : List Nat).length ≤ 2 := by decide
  have zm : [m].length ≤ 2 := by simp
  intro p hp
  cases r <;> simp only [addF, List.mem_cons, List.not_mem_nil, or_false] at hp
  case giv => subst hp; exact ⟨em, e0, zm, z0⟩
  case andL => subst hp; exact ⟨pm, e0, h2, z0⟩
  case boxL => subst hp; exact ⟨pm, e0, h2, z0⟩
  case orR => subst hp; exact ⟨e0, pm, z0, h2⟩
  case ifR => subst hp; exact ⟨tm, dm, t1, d1⟩
  case box => subst hp; exact ⟨tm, dm, t1, d1⟩
  case cut =>
    rcases hp with rfl | rfl
    · exact ⟨e0, em, z0, zm⟩
    · exact ⟨em, e0, zm, z0⟩
  case orL =>
    rcases hp with rfl | rfl
    · exact ⟨tm, e0, t1, z0⟩
    · exact ⟨dm, e0, d1, z0⟩
  case ifL =>
    rcases hp with rfl | rfl
    · exact ⟨e0, tm, z0, t1⟩
    · exact ⟨dm, e0, d1, z0⟩
  case andR =>
    rcases hp with rfl | rfl
    · exact ⟨e0, tm, z0, t1⟩
    · exact ⟨e0, dm, z0, d1⟩
theorem told_bd {bx : Bool} {lg : Str} {ns : List Nd} {l : Ln} (ok : okSheet bx ns) (L : LnOk ns l) (z1 : l.left.length ≤ 100) (z2 : l.right.length ≤ 100) : ∀ p ∈ toldF lg ns l, (∀ x ∈ p.1, x < ns.length) ∧ (∀ x ∈ p.2, x < ns.length) ∧ p.1.length ≤ 1000 ∧ p.2.length ≤ 1000 := by
  obtain ⟨le, ri, r, pr, mi⟩ := l
  by_cases hn : r = .no
  · subst hn
    have e : toldF lg ns ⟨le, ri, .no, pr, mi⟩ = [] := rfl
    rw [e]
    intro p hp; cases hp
  obtain ⟨m, em, hm⟩ := L.main hn
  have em : mi = (m : Nat) := em
  subst em
  have hle : ∀ x ∈ le, x < ns.length := L.left
  have hri : ∀ x ∈ ri, x < ns.length := L.right
  have z1 : le.length ≤ 100 := z1
  have z2 : ri.length ≤ 100 := z2
  have hpt := ndA_parts ok hm
  have hpl := parts_len (ndA ns m)
  intro p hp
  unfold toldF at hp
  by_cases hb : r = .box
  · have hb' : (Ln.mk le ri r pr (m : Nat)).rule = .box := hb
    rw [if_pos hb'] at hp
    obtain rfl := List.mem_singleton.mp hp
    have i1 : ∀ x ∈ inB ns le, x < ns.length := fun x hx => by
      unfold inB at hx
      obtain ⟨y, hy, rfl⟩ := List.mem_map.mp hx
      obtain ⟨h1, h2⟩ := List.mem_filter.mp hy
      obtain ⟨j, ej⟩ := isBx_at h2
      refine ndA_parts ok (hle y h1) _ ?_
      rw [ej]; simp [Nd.parts]
    have i2 : (inB ns le).length ≤ 100 := by
      unfold inB
      rw [List.length_map]
      exact Nat.le_trans (List.length_filter_le _ _) z1
    have i3 : ∀ x ∈ (le.filter fun r => isBx (ndA ns r)), x < ns.length := fun x hx => hle x (List.mem_filter.mp hx).1
    have i4 : (le.filter fun r => isBx (ndA ns r)).length ≤ 100 := Nat.le_trans (List.length_filter_le _ _) z1
    refine ⟨?_, hpt, ?_, by show (ndA ns m).parts.length ≤ _; omega⟩
    · show ∀ x ∈ bxL lg ns le m, _
      unfold bxL
      split
      · exact i1
      · split
        · exact i3
        · intro x hx
          rcases List.mem_append.mp hx with h | h
          · rcases List.mem_append.mp h with h | h
            · exact i1 x h
            · exact i3 x h
          · rw [List.mem_singleton.mp h]; exact hm
    · show (bxL lg ns le m).length ≤ _
      unfold bxL
      split
      · omega
      · split
        · omega
        · rw [List.length_append, List.length_append, List.length_singleton]; omega
  · have hb' : ¬ (Ln.mk le ri r pr (m : Nat)).rule = .box := hb
    rw [if_neg hb'] at hp
    unfold roomF at hp
    rw [if_neg hb'] at hp
    obtain ⟨q, hq, rfl⟩ := List.mem_map.mp hp
    obtain ⟨a1, a2, a3, a4⟩ := add_bd _ _ _ q hq
    have bd : ∀ x, (x = m ∨ x ∈ (ndA ns m).parts) → x < ns.length := fun x h => by
      rcases h with rfl | h
      · exact hm
      · exact hpt x h
    refine ⟨fun x hx => ?_, fun x hx => ?_, ?_, ?_⟩
    · rcases List.mem_append.mp hx with h | h
      · exact hle x h
      · exact bd x (a1 x h)
    · rcases List.mem_append.mp hx with h | h
      · split at h
        · cases h
        · exact hri x h
      · exact bd x (a2 x h)
    · show (le ++ q.1).length ≤ _
      rw [List.length_append]; omega
    · show ((if r = .ifR ∧ lg = "intuit" then [] else ri) ++ q.2).length ≤ _
      rw [List.length_append]
      have : (if r = .ifR ∧ lg = "intuit" then ([] : List Nat) else ri).length ≤ 100 := by split <;> first | exact z2 | simp
      omega
theorem range_getD (T : List Nat) : (List.range T.length).map (fun i => T.getD i 0) = T := by
  apply List.ext_getElem
  · simp
  · intro i h1 h2
    simp [h2]
theorem range_filt (T : List Nat) (c : Nat → Bool) (ys : Nat → V) : ((List.range T.length).filter fun i => c (T.getD i 0)).map (fun i => ys (T.getD i 0)) = (T.filter c).map ys := by
  have e : T.filter c = ((List.range T.length).filter (c ∘ fun i => T.getD i 0)).map (fun i => T.getD i 0) := by
    rw [← List.filter_map, range_getD]
  rw [e, List.map_map]
  rfl
/-- what stands behind the sides -/
structure MidC (M : List Addr) (st : Addr) (H0 : Hp) (lg : Str) (r : Rl) (σ : L2.St) (H : Hp) : Prop where
  ex : ∃ (S D th le ri : Addr) (mi : Int) (sv : V) (ns : List Nd) (thN leN riN : List Nat),
    σ = [some (.ref st), some (.str lg), some (.str r.str), some (.ref S), some (.int mi), some (.ref D), some (.bl (logicB lg)), some (.ref th), some sv, some (.ref le), some (.ref ri), some (.int (r.cnt : Nat)), none, none, none, none, none, none, none, none, none, none] ∧
    logicOk lg = true ∧ ShS M st S D lg ns H ∧ Tp M H th (nVl thN) ∧ RwO ns.length thN ∧ (if logicB lg = true then 0 ∈ thN else thN = []) ∧ Tp M H le (nVl leN) ∧ RwO ns.length leN ∧ Tp M H ri (nVl riN) ∧ RwO ns.length riN ∧ leN.length ≤ 100 ∧ riN.length ≤ 100 ∧
    (r = .no → mi = -1) ∧ (r ≠ .no → ∃ m : Nat, mi = m ∧ m < ns.length) ∧ Adv [st] H0 H
theorem single2 (A : All K mg w) {cdv : Value} {Ar : Around} {outer : List Env} {s : Shared} {H : Hp} {E : XK} (hr : Room 6 (Ar.deeper (envOfC "_law_single" (defScope s_law_single) s.heap.objs.size A.law_single.f cdv))) :
    ∃ t, PSs (cxOf CX0 P w K mg base ["stream", "logic", "rule", "sheet", "main", "rows", "boxed", "theory", "sure", "left", "right", "have", "told", "lines", "near", "row", "k", "one", "two", "more", "at", "premises"] "_law_single" (defScope s_law_single) A.law_single.f cdv Ar outer s H E).nox ((defBody s_law_single).drop 10) t ∧
      ∀ (Q : VK) (M : List Addr) (st : Addr) (H0 : Hp) (lg : Str) (r : Rl) (σ' : L2.St) (Hc : Hp), MidC M st H0 lg r σ' Hc → (∀ v ns th le ri ls l H', Is M H' (.tuple [clD ns th le ri, ppD ns (ls ++ [l])]) v → Sgl lg r ns th le ri ls l → StrAt M H' st → Adv [st] H0 H' → Q v H') → t { nx := fun _ H' => Q .non H', rt := Q } σ' Hc := by
  obtain ⟨t3, h3, q3⟩ := single3 (P := P) (base := base) (s := s) (outer := outer) (H := H) (E := E) (cdv := cdv) (Ar := Ar) A hr
  refine ⟨_, (pss_cut (ps_set (i := 12) sc_law_single.nd rfl (Or.inl rfl) (pe_call (ok_law_told A) (hr.mono (by omega)) rfl A.law_told.m A.law_told.F.kp A.law_told.b .nil pass0 (pa_cons (pv 1) (pa_cons (pv 3) (pa_cons (pv 7) (pa_cons (pe_tup (pa_cons (pv 9) (pa_cons (pv 10) (pa_cons (pv 2) (pa_cons (pe_op op_repA (pe_tup (pa_cons pe_int pa_nil)) (pv 11)) (pa_cons (pv 4) pa_nil)))))) pa_nil))))))
  (pss_cons (ps_set (i := 13) sc_law_single.nd rfl (Or.inl rfl) (pe_lst (pa_cons (pe_tup (pa_cons (pe_tup (pa_cons pe_int pa_nil)) (pa_cons (pe_tup pa_nil) (pa_cons pe_str (pa_cons (pe_tup pa_nil) (pa_cons (pe_un un_neg pe_int) pa_nil)))))) pa_nil)))
  (pss_cut (ps_set (i := 14) sc_law_single.nd rfl (Or.inl rfl) (pe_ifExp (pt_cmpR op_gt (pv 4) pe_int (nomark _)) (pe_op op_cat (pe_op op_cat (pe_lst (pa_cons (pv 4) pa_nil)) (pe_call (ok_law_parts A) (hr.mono (by omega)) rfl A.law_parts.m A.law_parts.F.kp A.law_parts.b .nil pass0 (pa_cons (pe_ix ix_list (pv 3) (pv 4) (fun _ _ => rfl)) pa_nil))) (pe_call (ok_law_parts A) (hr.mono (by omega)) rfl A.law_parts.m A.law_parts.F.kp A.law_parts.b .nil pass0 (pa_cons (pe_ix ix_list (pv 3) (pv 4) (fun _ _ => rfl)) pa_nil))) (pv 5)))
  (pss_cut (ps_for PassesOwn.never rfl (pi_list (pe_lc (own := [("row", 15)]) (g := (gName 15)) rfl sc_law_single.nd (pi_tup (pv 9)) (blkOk_by (own := [("row", 15)]) (N := ["stream", "logic", "rule", "sheet", "main", "rows", "boxed", "theory", "sure", "left", "right", "have", "told", "lines", "near", "row", "k", "one", "two", "more", "at", "premises"]) (sc := defScope s_law_single) (by decide +kernel)) (fun _ _ _ _ _ => pg_name (i := 15) sc_law_single.nd rfl (Or.inl rfl)) (fun _ _ _ _ _ => pts_one (pt_cmpR op_eq (pe_ix (ix_tupK K rfl) (pe_ix (ix_listK K rfl) (pv 3) (pv 15) (fun _ _ => rfl)) pe_int (fun _ _ => rfl)) pe_str (nomark _))) (fun _ _ _ _ _ => (pv 15)))) (pg_name (i := 15) sc_law_single.nd rfl (Or.inl rfl))
    (pss_one (ps_set (i := 14) sc_law_single.nd rfl (Or.inl rfl) (pe_op op_cat (pv 14) (pe_lst (pa_cons (pv 15) (pa_cons (pe_ix (ix_tupK K rfl) (pe_ix (ix_listK K rfl) (pv 3) (pv 15) (fun _ _ => rfl)) pe_int (fun _ _ => rfl)) pa_nil)))))))
  h3)))), ?_⟩
  rintro Q M st H0 lg r σ' Hc ⟨⟨S, D, th, le, ri, mi, sv, ns, thN, leN, riN, rfl, hlg, Sh, tth, rth, cth, tle, rle, tri, rri, zle, zri, n1, n2, a⟩⟩ q
  have cnt2 : r.cnt ≤ 2 := by cases r <;> decide
  walk_at "rd"
  refine ⟨fun σ' H' => ∃ (tv : V) (td : Option (List (List Nat × List Nat))), σ' = [some (.ref st), some (.str lg), some (.str r.str), some (.ref S), some (.int mi), some (.ref D), some (.bl (logicB lg)), some (.ref th), some sv, some (.ref le), some (.ref ri), some (.int (r.cnt : Nat)), some tv, none, none, none, none, none, none, none, none, none] ∧
    ShS M st S D lg ns H' ∧ Tp M H' th (nVl thN) ∧ Tp M H' le (nVl leN) ∧ Tp M H' ri (nVl riN) ∧ ToldV M H' tv td ∧ TdOk ns.length r.cnt td ∧ Adv [st] H0 H', ?_, ?_⟩
  · walk_at "rd"
    refine ⟨by show 1 ≤ sizeLine; decide, fun p1 m1 => ?_⟩
    have b : Adv [] Hc (upd Hc p1 (.tup [.int 0])) := Adv.new m1
    have tp1 : Tp M (upd Hc p1 (.tup [.int 0])) p1 (nVl [0]) := Tp.of upd_same (not_mem_new Sh.al m1)
    replace Sh := Sh.same b
    replace tth := tth.adv b.nil
    replace tle := tle.adv b.nil
    replace tri := tri.adv b.nil
    replace a := a.trans (Adv.nil b)
    generalize (upd Hc p1 (.tup [.int 0])) = H1 at b tp1 Sh tth tle tri a
    clear b m1
    walk_at "rd"
    refine rd_repM A.W Sh.al tp1 (by omega) fun rp H2 tpr b => ?_
    replace Sh := Sh.same b
    replace tth := tth.adv b.nil
    replace tle := tle.adv b.nil
    replace tri := tri.adv b.nil
    replace a := a.trans (Adv.nil b)
    clear b tp1
    walk_at "rd"
    refine ⟨by show 5 ≤ sizeLine; decide, fun t nt => ?_⟩
    have b : Adv [] H2 (upd H2 t (.tup [.ref le, .ref ri, .str r.str, .ref rp, .int mi])) := Adv.new nt
    have isL : Is M (upd H2 t (.tup [.ref le, .ref ri, .str r.str, .ref rp, .int mi])) (Ln.mk leN riN r (List.replicate r.cnt 0) mi).data (.ref t) :=
      .tup upd_same (not_mem_new Sh.al nt) (.cons (.tp (tle.adv b.nil) (nD_is _)) (.cons (.tp (tri.adv b.nil) (nD_is _)) (.cons .str (.cons (.tp (tpr.adv b.nil) (nD_is _)) (.cons .int .nil)))))
    replace Sh := Sh.same b
    replace tth := tth.adv b.nil
    replace tle := tle.adv b.nil
    replace tri := tri.adv b.nil
    replace a := a.trans (Adv.nil b)
    generalize (upd H2 t (.tup [.ref le, .ref ri, .str r.str, .ref rp, .int mi])) = H3 at b isL Sh tth tle tri a
    clear b nt tpr
    obtain ⟨rs, hS, hrs⟩ := Sh.hS
    have lok : LnOk ns (Ln.mk leN riN r (List.replicate r.cnt 0) mi) := ⟨rle.lt, rri.lt, n2, by show leN.length ≤ _; omega, by show riN.length ≤ _; omega⟩
    walk_at "rd"
    refine ⟨⟨M, lg, S, th, .ref t, rs, ns, thN, Ln.mk leN riN r (List.replicate r.cnt 0) mi, rfl, Sh.al, hS, hrs, tth, isL, lok, hlg, Sh.ok.1, fun e H4 b => ?_, fun e x H4 hx b => ?_⟩⟩
    · walk_at "rd"
      exact ⟨_, none, rfl, Sh.same b, tth.adv b.nil, tle.adv b.nil, tri.adv b.nil, rfl, ⟨fun l z => by cases z⟩, a.trans (Adv.nil b)⟩
    · walk_at "rd"
      exact ⟨_, some _, rfl, Sh.same b, tth.adv b.nil, tle.adv b.nil, tri.adv b.nil, hx, ⟨fun l z => by cases z; exact ⟨told_len e, told_bd Sh.ok lok zle zri⟩⟩, a.trans (Adv.nil b)⟩
  · clear Sh tth tle tri a
    rintro σ' H1 ⟨tv, td, rfl, Sh, tth, tle, tri, itv, tdo, a⟩
    walk_at "rd"
    refine ⟨by show 1 ≤ sizeLine; decide, fun p1 m1 => ?_⟩
    have b : Adv [] H1 (upd H1 p1 (.tup [.int 0])) := Adv.new m1
    have tp1 : Tp M (upd H1 p1 (.tup [.int 0])) p1 (nVl [0]) := Tp.of upd_same (not_mem_new Sh.al m1)
    replace Sh := Sh.same b
    replace tth := tth.adv b.nil
    replace tle := tle.adv b.nil
    replace tri := tri.adv b.nil
    replace itv := itv.adv b.nil
    replace a := a.trans (Adv.nil b)
    generalize (upd H1 p1 (.tup [.int 0])) = H2 at b tp1 Sh tth tle tri itv a
    clear b m1
    walk_at "rd"
    refine ⟨Nat.zero_le _, fun p2 m2 => ?_⟩
    have b : Adv [] H2 (upd H2 p2 (.tup [])) := Adv.new m2
    have tp2 : Tp M (upd H2 p2 (.tup [])) p2 (nVl []) := Tp.of upd_same (not_mem_new Sh.al m2)
    replace Sh := Sh.same b
    replace tth := tth.adv b.nil
    replace tle := tle.adv b.nil
    replace tri := tri.adv b.nil
    replace itv := itv.adv b.nil
    replace tp1 := tp1.adv b.nil
    replace a := a.trans (Adv.nil b)
    generalize (upd H2 p2 (.tup [])) = H3 at b tp1 tp2 Sh tth tle tri itv a
    clear b m2
    walk_at "rd"
    refine ⟨Nat.zero_le _, fun p3 m3 => ?_⟩
    have b : Adv [] H3 (upd H3 p3 (.tup [])) := Adv.new m3
    have tp3 : Tp M (upd H3 p3 (.tup [])) p3 (nVl []) := Tp.of upd_same (not_mem_new Sh.al m3)
    replace Sh := Sh.same b
    replace tth := tth.adv b.nil
    replace tle := tle.adv b.nil
    replace tri := tri.adv b.nil
    replace itv := itv.adv b.nil
    replace tp1 := tp1.adv b.nil
    replace tp2 := tp2.adv b.nil
    replace a := a.trans (Adv.nil b)
    generalize (upd H3 p3 (.tup [])) = H4 at b tp1 tp2 tp3 Sh tth tle tri itv a
    clear b m3
    walk_at "rd"
    refine ⟨by show 5 ≤ sizeLine; decide, fun t nt => ?_⟩
    have b : Adv [] H4 (upd H4 t (.tup [.ref p1, .ref p2, .str "no", .ref p3, .int (-1)])) := Adv.new nt
    have isL : Is M (upd H4 t (.tup [.ref p1, .ref p2, .str "no", .ref p3, .int (-1)])) line0.data (.ref t) :=
      .tup upd_same (not_mem_new Sh.al nt) (.cons (.tp (tp1.adv b.nil) (nD_is _)) (.cons (.tp (tp2.adv b.nil) (nD_is _)) (.cons .str (.cons (.tp (tp3.adv b.nil) (nD_is _)) (.cons .int .nil)))))
    replace Sh := Sh.same b
    replace tth := tth.adv b.nil
    replace tle := tle.adv b.nil
    replace tri := tri.adv b.nil
    replace itv := itv.adv b.nil
    replace a := a.trans (Adv.nil b)
    generalize (upd H4 t (.tup [.ref p1, .ref p2, .str "no", .ref p3, .int (-1)])) = H5 at b isL Sh tth tle tri itv a
    clear b nt tp1 tp2 tp3
    walk_at "rd"
    refine ⟨by show 1 ≤ sizeLine; decide, fun Ls nL => ?_⟩
    have lsM := not_mem_new Sh.al nL
    have lsS : Ls ≠ st := fun z => lsM (by rw [z]; exact Sh.ms)
    have b : Adv [] H5 (upd H5 Ls (.lst [.ref t])) := Adv.new nL
    have ms := Sh.ms
    have Sh1 := Sh.fresh (o := .lst [.ref t]) nL
    have a1 := a.trans (Adv.nil b)
    have itv1 : ToldV (Ls :: M) (upd H5 Ls (.lst [.ref t])) tv td := ToldV.adv (H := H5) (by
      cases td with
      | none => exact itv
      | some l => exact Is.fresh itv nL) b.nil
    have iL1 : IsDs (Ls :: M) (upd H5 Ls (.lst [.ref t])) [line0.data] [.ref t] := .one ((isL.fresh nL).adv b.nil)
    have c0 : H0 Ls = none := a.free (notin1 lsS) nL
    have B0 : Bd M st H0 Ls S D D th le ri lg ns thN leN riN (List.range ns.length) tv td [.ref t] [line0.data] (upd H5 Ls (.lst [.ref t])) :=
      ⟨Sh1, upd_same, iL1, (tth.fresh nL).adv b.nil, (tle.fresh nL).adv b.nil, (tri.fresh nL).adv b.nil, Sh1.hD, Sh1.dM, itv1, a1, lsM, ms, c0⟩
    generalize (upd H5 Ls (.lst [.ref t])) = H6 at B0
    clear b nL Sh1 a1 itv1 iL1 c0 Sh tth tle tri itv a isL
    have npos : 0 < ns.length := (List.getElem?_eq_some_iff.mp B0.Sh.h0).1
    have nl30 := B0.Sh.nl
    walk_at "rd"
    refine ⟨fun σ' H' => ∃ (N : Addr) (nl : List Nat), σ' = [some (.ref st), some (.str lg), some (.str r.str), some (.ref S), some (.int mi), some (.ref D), some (.bl (logicB lg)), some (.ref th), some sv, some (.ref le), some (.ref ri), some (.int (r.cnt : Nat)), some tv, some (.ref Ls), some (.ref N), none, none, none, none, none, none, none] ∧
      Bd M st H0 Ls S D N th le ri lg ns thN leN riN nl tv td [.ref t] [line0.data] H' ∧ nl ≠ [] ∧ (∀ x ∈ nl, x < ns.length) ∧ nl.length ≤ 40, ?_, ?_⟩
    · walk_at "rd"
      refine iteB (fun e => ?_) (fun e => ?_)
      · have hpos : 0 < mi := of_decide_eq_true e
        obtain ⟨m, em, hm⟩ := n2 (fun z => by have := n1 z; omega)
        subst em
        obtain ⟨rs, hS, hrs⟩ := B0.Sh.hS
        obtain ⟨nd', hnd, tn⟩ := nd_at hrs hm
        have hpt := ndA_parts B0.Sh.ok hm
        have hpl := parts_len (ndA ns m)
        walk_at "rd"
        refine ⟨by show 1 ≤ sizeLine; decide, fun o1 m1 => ?_⟩
        have b : Adv [] H6 (upd H6 o1 (.lst [.int (m : Nat)])) := Adv.new m1
        have h1 : (upd H6 o1 (.lst [.int (m : Nat)])) o1 = some (.lst (nVl [m])) := upd_same
        replace B0 := B0.same b
        replace hS := b.same _ _ hS
        replace tn := tn.adv b.nil
        generalize (upd H6 o1 (.lst [.int (m : Nat)])) = H7 at b h1 B0 hS tn
        clear b m1 hrs
        walk_at "rd"
        refine ⟨⟨Ls :: M, nd', ndA ns m, rfl, tn, fun o2 H8 m2 h2 b => ?_⟩⟩
        rw [if_neg (by decide)] at h2
        replace B0 := B0.same b
        replace hS := b.same _ _ hS
        replace tn := tn.adv b.nil
        replace h1 := b.same _ _ h1
        clear b m2
        walk_at "rd"
        refine rd_cat h1 h2 (by rw [nVl_len]; unfold nV; rw [List.length_map, sizeLine_eq]; show 1 + _ ≤ _; omega) fun o3 m3 => ?_
        have ec : nVl [m] ++ nV (ndA ns m).parts = nVl ([m] ++ (ndA ns m).parts) := by unfold nVl nV; rw [List.map_append]
        rw [ec]
        have b : Adv [] H8 (upd H8 o3 (.lst (nVl ([m] ++ (ndA ns m).parts)))) := Adv.new m3
        have h3 : (upd H8 o3 (.lst (nVl ([m] ++ (ndA ns m).parts)))) o3 = some (.lst (nVl ([m] ++ (ndA ns m).parts))) := upd_same
        replace B0 := B0.same b
        replace hS := b.same _ _ hS
        replace tn := tn.adv b.nil
        generalize (upd H8 o3 (.lst (nVl ([m] ++ (ndA ns m).parts)))) = H9 at b h3 B0 hS tn
        clear b m3 h1 h2 ec
        walk_at "rd"
        refine ⟨⟨Ls :: M, nd', ndA ns m, rfl, tn, fun o4 H10 m4 h4 b => ?_⟩⟩
        rw [if_neg (by decide)] at h4
        replace B0 := B0.same b
        replace h3 := b.same _ _ h3
        clear b m4 tn hS
        walk_at "rd"
        refine rd_cat h3 h4 (by rw [nVl_len, List.length_append]; unfold nV; rw [List.length_map, sizeLine_eq]; show 1 + _ + _ ≤ _; omega) fun o5 m5 => ?_
        have ec : nVl ([m] ++ (ndA ns m).parts) ++ nV (ndA ns m).parts = nVl ([m] ++ (ndA ns m).parts ++ (ndA ns m).parts) := by unfold nVl nV; rw [List.map_append, List.map_append, List.map_append]
        rw [ec]
        have b : Adv [] H10 (upd H10 o5 (.lst (nVl ([m] ++ (ndA ns m).parts ++ (ndA ns m).parts)))) := Adv.new m5
        have o5M := not_mem_new B0.Sh.al m5
        replace B0 := B0.same b
        walk_at "rd"
        refine ⟨o5, [m] ++ (ndA ns m).parts ++ (ndA ns m).parts, rfl, ⟨B0.Sh, B0.hLs, B0.ils, B0.tth, B0.tle, B0.tri, upd_same, o5M, B0.itv, B0.a, B0.lsM, B0.ms, B0.c0⟩, by simp, fun x hx => ?_, ?_⟩
        · rcases List.mem_append.mp hx with h | h
          · rcases List.mem_append.mp h with h | h
            · rw [List.mem_singleton.mp h]; exact hm
            · exact hpt x h
          · exact hpt x h
        · rw [List.length_append, List.length_append]; show 1 + _ + _ ≤ _; omega
      · walk_at "rd"
        exact ⟨D, List.range ns.length, rfl, B0, fun z => by have := congrArg List.length z; rw [List.length_range] at this; have : ns.length = 0 := this; omega, fun x hx => List.mem_range.mp hx, by rw [List.length_range]; omega⟩
    · clear B0
      rintro σ' H6 ⟨N, nl, rfl, B, ne, nb, nz⟩
      refine ⟨fun σ' H' => MidB M st H0 lg r σ' H', ?_, fun σ' H' z => q3 Q M st H0 lg r σ' H' z q⟩
      clear q q3 h3
      walk_at "rd"
      unfold iList tLc iTup
      walk_at "rd"
      have sq := B.tle.sq (K := K) A.W
      refine ⟨le, rfl, ⟨_, sq⟩, fun C nC => ?_⟩
      refine lc_filtT (K := K) (a := le) (xs := nVl leN) (fun i => V.int (leN.getD i 0 : Nat)) (fun i => isBx (ndA ns (leN.getD i 0))) nC sq (by rw [nVl_len]; omega) ?_ ?_
      · intro i y H7 acc R' R0 hx aH hD r1 r0
        obtain ⟨x, hx', rfl⟩ := nVl_get hx
        have ex : leN.getD i 0 = x := by rw [List.getD_eq_getElem?_getD, hx']; rfl
        rw [ex] at r1 r0
        obtain ⟨rs, hS, hrs⟩ := (B.same aH).Sh.hS
        obtain ⟨nd', hnd, tn⟩ := nd_at hrs (rle.lt x (List.mem_of_getElem? hx'))
        have sqr := tn.sq (K := K) A.W
        clear sq B hrs
        refine ⟨rfl, ?_⟩
        walk_at "rd"
        refine rd_ixT sqr (atI_nat (j := 0) (wdN_at _)) ?_
        walk_at "rd"
        rw [wd_isBx]
        refine iteB (fun e => ?_) (fun e => ?_)
        · exact ⟨_, rfl, r1 e H7 hD aH⟩
        · exact r0 e H7 hD aH
      · intro H7 aH hC
        rw [nVl_len, range_filt leN (fun k => isBx (ndA ns k)) (fun k => V.int (k : Nat))] at hC
        have hC : H7 C = some (.lst (nVl (leN.filter fun k => isBx (ndA ns k)))) := hC
        have fl : (leN.filter fun k => isBx (ndA ns k)).length ≤ leN.length := List.length_filter_le _ _
        replace B := B.same aH
        clear sq aH nC
        refine ⟨C, rfl, ⟨_, SqL.of hC⟩, ?_⟩
        refine for_list (a := C) (xs := nVl (leN.filter fun k => isBx (ndA ns k))) (fun i σ' H' => ∃ (N : Addr) (nl : List Nat) (y15 : Option V), σ' = [some (.ref st), some (.str lg), some (.str r.str), some (.ref S), some (.int mi), some (.ref D), some (.bl (logicB lg)), some (.ref th), some sv, some (.ref le), some (.ref ri), some (.int (r.cnt : Nat)), some tv, some (.ref Ls), some (.ref N), y15, none, none, none, none, none, none] ∧
          Bd M st H0 Ls S D N th le ri lg ns thN leN riN nl tv td [.ref t] [line0.data] H' ∧ H' C = some (.lst (nVl (leN.filter fun k => isBx (ndA ns k)))) ∧ nl ≠ [] ∧ (∀ x ∈ nl, x < ns.length) ∧ nl.length ≤ 40 + 2 * i)
          ⟨N, nl, _, rfl, B, hC, ne, nb, by omega⟩ ?_ ?_ ?_
        · rintro i σ' H' hi ⟨N, nl, y15, rfl, _, hC, _⟩
          exact SqL.of hC
        · rintro i v σ' H' hx ⟨N, nl, y15, rfl, B, hC, ne, nb, nz⟩
          obtain ⟨x, hx', rfl⟩ := nVl_get hx
          have il : i < (leN.filter fun k => isBx (ndA ns k)).length := (List.getElem?_eq_some_iff.mp hx').1
          obtain ⟨h1, h2⟩ := List.mem_filter.mp (List.mem_of_getElem? hx')
          obtain ⟨j, ej⟩ := isBx_at h2
          have hxl := rle.lt x h1
          have hjl : j < ns.length := ndA_parts B.Sh.ok hxl j (by rw [ej]; simp [Nd.parts])
          obtain ⟨rs, hS, hrs⟩ := B.Sh.hS
          obtain ⟨nd', hnd, tn⟩ := nd_at hrs hxl
          have sqr := tn.sq (K := K) A.W
          rw [ej] at sqr
          have sqr : SqT K H' nd' [.str "box", .int (j : Nat)] := sqr
          clear hrs tn
          walk_at "rd"
          refine ⟨by show 2 ≤ sizeLine; decide, fun o1 m1 => ?_⟩
          have b : Adv [] H' (upd H' o1 (.lst [.int (x : Nat), .int (j : Nat)])) := Adv.new m1
          have ho1 : (upd H' o1 (.lst [.int (x : Nat), .int (j : Nat)])) o1 = some (.lst (nVl [x, j])) := upd_same
          replace B := B.same b
          replace hC := b.same _ _ hC
          generalize (upd H' o1 (.lst [.int (x : Nat), .int (j : Nat)])) = H8 at b ho1 B hC
          clear b m1 hS sqr
          refine rd_cat B.hN ho1 (by rw [nVl_len, nVl_len, sizeLine_eq]; show _ + 2 ≤ _; omega) fun o2 m2 => ?_
          have ec : nVl nl ++ nVl [x, j] = nVl (nl ++ [x, j]) := by unfold nVl; rw [List.map_append]
          rw [ec]
          have b : Adv [] H8 (upd H8 o2 (.lst (nVl (nl ++ [x, j])))) := Adv.new m2
          have o2M := not_mem_new B.Sh.al m2
          replace B := B.same b
          replace hC := b.same _ _ hC
          walk_at "rd"
          refine ⟨o2, nl ++ [x, j], _, rfl, ⟨B.Sh, B.hLs, B.ils, B.tth, B.tle, B.tri, upd_same, o2M, B.itv, B.a, B.lsM, B.ms, B.c0⟩, hC, by simp, fun y hy => ?_, by rw [List.length_append]; show _ + 2 ≤ _; omega⟩
          rcases List.mem_append.mp hy with h | h
          · exact nb y h
          · simp only [List.mem_cons, List.not_mem_nil, or_false] at h
            rcases h with rfl | rfl
            · exact hxl
            · exact hjl
        · rintro σ' H' ⟨N, nl, y15, rfl, B, hC, ne, nb, nz⟩
          rw [nVl_len] at nz
          exact ⟨⟨S, D, Ls, N, th, le, ri, mi, sv, tv, _, _, ns, thN, leN, riN, nl, td, rfl, B, tdo, ne, nb, by omega, rth, cth, rle, rri, zle, zri, n1, n2⟩⟩
end

set_option Elab.async false
set_option linter.all false
set_option maxRecDepth 100000
set_option maxHeartbeats 4000000
open PySem PySem.Spec PyProof.Rows L2 LL
open C8 (pss_cut)
section
variable [KW]
variable {P : Program} {w : World} {K : PySem.W.Frag} {mg : Str → Option Value} {base : Heap}
local macro_rules | `(tactic| walk_at "rd1") => `(tactic| with_reducible refine rd_srt ?_)
/-! ### _law_single: the sides -/
/-- [m] * int(b) -/
theorem rep_go {H : Hp} {p : Addr} {m : Nat} {b : Bool} {R : VK} (h : H p = some (.lst [.int (m : Nat)])) (q : ∀ l sr H', H l = none → H' l = some (.lst (nVl sr)) → (b = true → sr = [m]) → (b = false → sr = []) → Adv [] H H' → R (.ref l) H') : rRep (.ref p) (.int (if b = true then 1 else 0)) H R := by
  have h : H p = some (.lst (nVl [m])) := h
  cases b with
  | true =>
    refine ⟨p, 1, nVl [m], rfl, rfl, h, by decide, by decide, by rw [sizeLine_eq]; show (1 : Nat) * 1 ≤ _; decide, fun l nl => ?_⟩
    exact q l [m] _ nl (by rw [upd_same]; rfl) (fun _ => rfl) (fun z => by cases z) (Adv.new nl)
  | false =>
    refine ⟨p, 0, nVl [m], rfl, rfl, h, by decide, by decide, by rw [sizeLine_eq]; show (1 : Nat) * 0 ≤ _; decide, fun l nl => ?_⟩
    exact q l [] _ nl (by rw [upd_same]; rfl) (fun z => by cases z) (fun _ => rfl) (Adv.new nl)
/-- (0,) + tuple([m] * int(b)) -/
theorem thy_end (W : KWOk K w) {M : List Addr} {H : Hp} {p1 p2 : Addr} {m : Nat} {b : Bool} {Q' : VK} (al : ∀ b ∈ M, H b ≠ none) (tp1 : Tp M H p1 (nVl [0])) (h : H p2 = some (.lst [.int (m : Nat)])) (q : ∀ th sr H', Tp M H' th (nVl ([0] ++ sr)) → (b = true → sr = [m]) → (b = false → sr = []) → Adv [] H H' → Q' (.ref th) H') :
    rRep (.ref p2) (.int (if b = true then 1 else 0)) H (fun x H1 => ∃ p ys, [x] = [V.ref p] ∧ ((SqL K H1 p ys ∧ ∀ l, H1 l = none → rCatA K (.ref p1) (.ref l) (upd H1 l (.tup ys)) Q') ∨ (SqT K H1 p ys ∧ rCatA K (.ref p1) (.ref p) H1 Q'))) := by
  refine rep_go h fun l sr H1 nl hl e1 e0 a1 => ⟨l, _, rfl, .inl ⟨SqL.of hl, fun t nt => ?_⟩⟩
  have al1 := alloc_adv al a1 (by simp)
  have b2 : Adv [] H1 (upd H1 t (.tup (nVl sr))) := Adv.new nt
  have zs : sr.length ≤ 1 := by cases hb : b with
    | true => rw [e1 hb]; simp
    | false => rw [e0 hb]; simp
  refine rd_catM W (alloc_adv al1 b2 (by simp)) ((tp1.adv a1.nil).adv b2.nil) (Tp.of upd_same (not_mem_new al1 nt)) (by rw [nVl_len, nVl_len, sizeLine_eq]; show 1 + _ ≤ _; omega) fun r H2 tr b3 => ?_
  refine q r sr H2 ?_ e1 e0 (a1.trans (b2.trans b3))
  have ec : nVl [0] ++ nVl sr = nVl ([0] ++ sr) := by unfold nVl; rw [List.map_append]
  rw [← ec]; exact tr
theorem sid_end {M : List Addr} {st S D p2 : Addr} {lg : Str} {ns : List Nd} {H : Hp} {m : Nat} {b : Bool} {n : Int} {Q' : VK} (Sh : ShS M st S D lg ns H) (hm : m < ns.length) (h : H p2 = some (.lst [.int (m : Nat)]))
    (q : ∀ t out H', Tp M H' t (nVl out) → RwO ns.length out → out.length ≤ 50 → ShS M st S D lg ns H' → Adv [st] H H' → Q' (.ref t) H') : rRep (.ref p2) (.int (if b = true then 1 else 0)) H (fun y H1 => SidP [.ref st, .ref D, .int n, y] H1 Q') := by
  refine rep_go h fun l sr H1 nl hl e1 e0 a1 => ?_
  have Sh1 := Sh.same a1
  have zs : sr.length ≤ 1 ∧ ∀ x ∈ sr, x < ns.length := by
    cases hb : b with
    | true => rw [e1 hb]; simpa using hm
    | false => rw [e0 hb]; simp
  have nl30 := Sh.nl
  refine ⟨⟨M, st, D, l, List.range ns.length, sr, n, rfl, Sh1.str, Sh1.hD, hl, fun z => Sh1.str.here (by rw [← z]; exact absurd nl (by rw [z]; exact fun y => Sh.str.here y)), by rw [List.length_range]; omega, by omega, fun t out H2 nt ht asc mem sub len hs a2 => ?_⟩⟩
  rw [List.length_range] at len
  refine q t out H2 (Tp.of ht (not_mem_new Sh1.al nt)) ⟨asc, fun x hx => ?_, by omega⟩ (by omega) (Sh1.next a2 hs) ((Adv.nil a1).trans a2)
  rcases mem x hx with h | h
  · exact List.mem_range.mp h
  · exact zs.2 x h
theorem cnt_get (r : Rl) : (valV (mergeK [] [((Sum.inr "axiom" : Key), V.int 0), (Sum.inr "no", .int 0), (Sum.inr "or left", .int 2), (Sum.inr "if left", .int 2), (Sum.inr "and right", .int 2), (Sum.inr "cut", .int 2)]) (Sum.inr r.str)).getD (V.int 1) = V.int (r.cnt : Nat) := by
  cases r <;> decide +kernel
theorem no_str (r : Rl) : decide (V.str r.str = V.str "no") = decide (r = .no) := by cases r <;> decide
structure SngP (vs : List V) (H : Hp) (Q : VK) : Prop where
  ex : ∃ (M : List Addr) (st : Addr) (lg : Str) (r : Rl), vs = [.ref st, .str lg, .str r.str] ∧ StrAt M H st ∧ st ∈ M ∧ (∀ b ∈ M, H b ≠ none) ∧ logicOk lg = true ∧
    ∀ v ns th le ri ls l H', Is M H' (.tuple [clD ns th le ri, ppD ns (ls ++ [l])]) v → Sgl lg r ns th le ri ls l → StrAt M H' st → Adv [st] H H' → Q v H'
def spSng : Sp := fun vs H Q _ => SngP vs H Q
theorem ok_law_single (A : All K mg w) : FnOk P w K mg base CX0 7 A.law_single.f A.law_single.fd ["stream", "logic", "rule"] spSng := by
  refine A.law_single.F.ok sc_law_single (fun vs H Q E h => ?_) (fun cdv Ar outer s H vs Q E hr h => ?_)
  · obtain ⟨M, st, lg, r, rfl, _⟩ := h.ex
    rfl
  · obtain ⟨M, st, lg, r, rfl, hs, ms, al, hlg, q⟩ := h.ex
    obtain ⟨t2, h2, q2⟩ := single2 (P := P) (base := base) (s := s) (outer := outer) (H := H) (E := E) (cdv := cdv) (Ar := Ar) A hr
    refine ⟨_, (pss_cons (ps_asg (pe_call (ok_law_sheet A) (hr.mono (by omega)) rfl A.law_sheet.m A.law_sheet.F.kp A.law_sheet.b .nil pass0 (pa_cons (pv 0) (pa_cons (pv 1) (pa_cons (pv 2) pa_nil)))) (pg_tup rfl (pgs_cons (pg_name (i := 3) sc_law_single.nd rfl (Or.inr rfl)) (pgs_cons (pg_name (i := 4) sc_law_single.nd rfl (Or.inl rfl)) pgs_nil))))
  (pss_cons (ps_set (i := 5) sc_law_single.nd rfl (Or.inl rfl) (pe_listRg rfl rfl A.T.list (prg_1 rfl A.T.range (pe_callB call_len_seq (by rfl) A.T.len PySem.boot_len (pa_cons (pv 3) pa_nil)))))
  (pss_cons (ps_set (i := 6) sc_law_single.nd rfl (Or.inl rfl) (pe_call (ok_law_is_boxed A) (hr.mono (by omega)) rfl A.law_is_boxed.m A.law_is_boxed.F.kp A.law_is_boxed.b .nil pass0 (pa_cons (pv 1) pa_nil)))
  (pss_cut (ps_set (i := 7) sc_law_single.nd rfl (Or.inl rfl) (pe_ifExp (pt_val (pv 6)) (pe_op op_catA (pe_tup (pa_cons pe_int pa_nil)) (pe_callTy call_tuple_of (by rfl) A.T.tuple (by decide +kernel) (pa_cons (pe_op op_rep (pe_lst (pa_cons (pv 4) pa_nil)) (pe_callTy call_int1 (by rfl) A.T.int (by decide +kernel) (pa_cons (pe_and (pe_cmpR op_eq (pv 2) pe_str (nomark _)) (pe_and (pe_cmpR op_gt (pv 4) pe_int (nomark _)) (pe_one (pe_cmpR op_eq (pe_call (ok_law_next A) (hr.mono (by omega)) rfl A.law_next.m A.law_next.F.kp A.law_next.b .nil pass0 (pa_cons (pv 0) (pa_cons pe_int pa_nil))) pe_int (nomark _))))) pa_nil))) pa_nil))) (pe_tup pa_nil)))
  (pss_cons (ps_set (i := 8) sc_law_single.nd rfl (Or.inl rfl) (pe_cmpR op_gt (pe_call (ok_law_next A) (hr.mono (by omega)) rfl A.law_next.m A.law_next.F.kp A.law_next.b .nil pass0 (pa_cons (pv 0) (pa_cons pe_int pa_nil))) pe_int (nomark _)))
  (pss_cut (ps_set (i := 9) sc_law_single.nd rfl (Or.inl rfl) (pe_call (ok_law_sides A) (hr.mono (by omega)) rfl A.law_sides.m A.law_sides.F.kp A.law_sides.b .nil pass0 (pa_cons (pv 0) (pa_cons (pv 5) (pa_cons (pe_call (ok_law_pick A) (hr.mono (by omega)) rfl A.law_pick.m A.law_pick.F.kp A.law_pick.b .nil pass0 (pa_cons (pv 0) (pa_cons (pe_tup (pa_cons pe_int (pa_cons pe_int (pa_cons pe_int pa_nil)))) pa_nil))) (pa_cons (pe_op op_rep (pe_lst (pa_cons (pv 4) pa_nil)) (pe_callTy call_int1 (by rfl) A.T.int (by decide +kernel) (pa_cons (pe_and (pv 8) (pe_one (pe_or (pe_m1 PySem.F.slot_str_endswith PySem.F.type_str_endswith mt_endswith (pv 2) pe_str rfl) (pe_one (pe_cmpR op_eq (pv 2) pe_str (nomark _)))))) pa_nil))) pa_nil))))))
  (pss_cut (ps_set (i := 10) sc_law_single.nd rfl (Or.inl rfl) (pe_call (ok_law_sides A) (hr.mono (by omega)) rfl A.law_sides.m A.law_sides.F.kp A.law_sides.b .nil pass0 (pa_cons (pv 0) (pa_cons (pv 5) (pa_cons (pe_call (ok_law_pick A) (hr.mono (by omega)) rfl A.law_pick.m A.law_pick.F.kp A.law_pick.b .nil pass0 (pa_cons (pv 0) (pa_cons (pe_tup (pa_cons pe_int (pa_cons pe_int pa_nil))) pa_nil))) (pa_cons (pe_op op_rep (pe_lst (pa_cons (pv 4) pa_nil)) (pe_callTy call_int1 (by rfl) A.T.int (by decide +kernel) (pa_cons (pe_and (pv 8) (pe_one (pe_or (pe_m1 PySem.F.slot_str_endswith PySem.F.type_str_endswith mt_endswith (pv 2) pe_str rfl) (pe_one (pe_cmpR (op_inK K rfl) (pv 2) (pe_tup (pa_cons pe_str (pa_cons pe_str pa_nil))) rfl))))) pa_nil))) pa_nil))))))
  (pss_cons (ps_set (i := 11) sc_law_single.nd rfl (Or.inl rfl) (pe_dget2 (hu_of hr) (pe_disp (pps_cons pe_str pe_int (pps_cons pe_str pe_int (pps_cons pe_str pe_int (pps_cons pe_str pe_int (pps_cons pe_str pe_int (pps_cons pe_str pe_int pps_nil)))))) (by rfl) (by rfl) (fun z => by cases z) (by decide)) (pv 2) pe_int ⟨rfl, rfl, rfl, rfl⟩))
  (pss_cut (ps_if (PW.pt (pw_and (pt_cmpR op_gt (pv 11) pe_int (nomark _)) (pw_and1 (pt_not (pt_val (pv 6))))))
    (pss_one (ps_set (i := 9) sc_law_single.nd rfl (Or.inl rfl) (pe_callTy call_tuple_of (by rfl) A.T.tuple (by decide +kernel) (pa_cons (pe_callB (cr_sortS rfl) (by rfl) A.T.sorted (by decide +kernel) (pa_cons (pe_callTy (cr_setL rfl) (by rfl) A.T.set (by decide +kernel) (pa_cons (pe_op op_catA (pv 9) (pe_tup (pa_cons pe_int pa_nil))) pa_nil)) pa_nil)) pa_nil))))
    pss_nil)
  (pss_cut (ps_set (i := 4) sc_law_single.nd rfl (Or.inl rfl) (pe_ifExp (pt_cmpR op_eq (pv 2) pe_str (nomark _)) (pe_un un_neg pe_int) (pv 4)))
  h2)))))))))), ?_⟩
    replace q2 := fun σ' H' (z : MidC M st H lg r σ' H') => q2 Q M st H lg r σ' H' z q
    clear q
    walk_at "rd"
    refine ⟨⟨M, st, lg, r, rfl, hs, ms, al, fun t S rs ns m H1 nt ht nS hS hrs ok h0 hm hl hs1 a1 => ?_⟩⟩
    walk_at "rd"
    refine rd_gtup (SqT.of ht) rfl ?_
    have hrl := hrs.len
    rw [List.length_map] at hrl
    have sM : S ∉ M := fun z => al S z nS
    have al1 := alloc_adv al a1 (by simpa using hs1.here)
    replace hrs := hrs.less (N := M) (by simp +contextual)
    clear ht nt hs al
    walk_at "rd"
    unfold tLstRg tRg1
    walk_at "rd"
    refine ⟨.of_le (by omega) (by omega) (by omega) (by omega), fun D nD => ?_⟩
    rw [hrl, rg_nat]
    have b : Adv [] H1 (upd H1 D (.lst (nVl (List.range ns.length)))) := Adv.new nD
    have Sh : ShS M st S D lg ns (upd H1 D (.lst (nVl (List.range ns.length)))) := ⟨hs1.same b, ms, alloc_adv al1 b (by simp), sM, ⟨rs, b.same _ _ hS, hrs.adv b.nil⟩, not_mem_new al1 nD, upd_same, ok, h0, hl⟩
    have a := a1.trans (Adv.nil b)
    generalize (upd H1 D (.lst (nVl (List.range ns.length)))) = H2 at b Sh a
    clear b nD hs1 hS hrs a1 al1
    walk_at "rd"
    refine ⟨lg, rfl, fun H3 b => ?_⟩
    replace Sh := Sh.same b
    replace a := a.trans (Adv.nil b)
    clear b
    have npos : 0 < ns.length := (List.getElem?_eq_some_iff.mp h0).1
    walk_at "rd"
    refine ⟨fun σ' H' => ∃ (th : Addr) (thN : List Nat), σ' = [some (.ref st), some (.str lg), some (.str r.str), some (.ref S), some (.int (m : Nat)), some (.ref D), some (.bl (logicB lg)), some (.ref th), none, none, none, none, none, none, none, none, none, none, none, none, none, none] ∧
      ShS M st S D lg ns H' ∧ Tp M H' th (nVl thN) ∧ RwO ns.length thN ∧ (if logicB lg = true then 0 ∈ thN else thN = []) ∧ Adv [st] H H', ?_, ?_⟩
    · walk_at "rd"
      refine iteB (fun eb => ?_) (fun eb => ?_)
      · walk_at "rd"
        refine ⟨by show 1 ≤ sizeLine; decide, fun p1 m1 => ?_⟩
        have b : Adv [] H3 (upd H3 p1 (.tup [.int 0])) := Adv.new m1
        have tp1 : Tp M (upd H3 p1 (.tup [.int 0])) p1 (nVl [0]) := Tp.of upd_same (not_mem_new Sh.al m1)
        replace Sh := Sh.same b
        replace a := a.trans (Adv.nil b)
        generalize (upd H3 p1 (.tup [.int 0])) = H4 at b tp1 Sh a
        clear b m1
        walk_at "rd"
        refine ⟨by show 1 ≤ sizeLine; decide, fun p2 m2 => ?_⟩
        have b : Adv [] H4 (upd H4 p2 (.lst [.int (m : Nat)])) := Adv.new m2
        have hp2 : (upd H4 p2 (.lst [.int (m : Nat)])) p2 = some (.lst [.int (m : Nat)]) := upd_same
        have p2M := not_mem_new Sh.al m2
        replace Sh := Sh.same b
        replace tp1 := tp1.adv b.nil
        replace a := a.trans (Adv.nil b)
        generalize (upd H4 p2 (.lst [.int (m : Nat)])) = H5 at b hp2 tp1 Sh a
        clear b m2
        walk_at "rd"
        have thR : ∀ {b : Bool} {sr : List Nat}, (b = true → 0 < m) → (b = true → sr = [m]) → (b = false → sr = []) → RwO ns.length ([0] ++ sr) := fun {b sr} h e1 e0 => by
          cases b with
          | false => rw [e0 rfl]; exact RwO.one npos
          | true =>
            rw [e1 rfl]
            have := h rfl
            exact ⟨by simp; omega, by simp; omega, by simp⟩
        refine iteB (fun e => ?_) (fun e => ?_)
        · walk_at "rd"
          refine iteB (fun e2 => ?_) (fun e2 => ?_)
          · have hm0 : 0 < m := by have := of_decide_eq_true e2; omega
            walk_at "rd"
            refine ⟨st, 2, _, rfl, Sh.str, by decide, by decide, fun d H6 d0 d1 hs6 a6 => ?_⟩
            have sM1 := Sh.sM1
            replace Sh := Sh.next a6 hs6
            replace tp1 := tp1.adv (a6.more sM1)
            replace hp2 := a6 _ _ (fun z => p2M (sM1 _ z)) hp2
            replace a := a.trans a6
            clear a6 hs6
            walk_at "rd"
            refine .inr ⟨_, rfl, thy_end A.W Sh.al tp1 hp2 fun th sr H' tth e1 e0 b => ?_⟩
            walk_at "rd"
            exact ⟨th, [0] ++ sr, rfl, Sh.same b, tth, thR (fun _ => hm0) e1 e0, by rw [if_pos eb]; simp, a.trans (Adv.nil b)⟩
          · walk_at "rd"
            refine .inr ⟨false, rfl, thy_end A.W Sh.al tp1 hp2 fun th sr H' tth e1 e0 b => ?_⟩
            walk_at "rd"
            exact ⟨th, [0] ++ sr, rfl, Sh.same b, tth, thR (fun z => by cases z) e1 e0, by rw [if_pos eb]; simp, a.trans (Adv.nil b)⟩
        · walk_at "rd"
          refine .inr ⟨false, rfl, thy_end A.W Sh.al tp1 hp2 fun th sr H' tth e1 e0 b => ?_⟩
          walk_at "rd"
          exact ⟨th, [0] ++ sr, rfl, Sh.same b, tth, thR (fun z => by cases z) e1 e0, by rw [if_pos eb]; simp, a.trans (Adv.nil b)⟩
      · walk_at "rd"
        refine ⟨Nat.zero_le _, fun th nth => ?_⟩
        have b : Adv [] H3 (upd H3 th (.tup [])) := Adv.new nth
        walk_at "rd"
        exact ⟨th, [], rfl, Sh.same b, Tp.of upd_same (not_mem_new Sh.al nth), RwO.nil, by rw [if_neg (by rw [eb]; decide)], a.trans (Adv.nil b)⟩
    · clear Sh a
      rintro σ' H3 ⟨th, thN, rfl, Sh, tth, rth, cth, a⟩
      walk_at "rd"
      refine ⟨st, 8, _, rfl, Sh.str, by decide, by decide, fun d H4 d0 d1 hs4 a4 => ?_⟩
      have sM1 := Sh.sM1
      replace Sh := Sh.next a4 hs4
      replace tth := tth.adv (a4.more sM1)
      replace a := a.trans a4
      clear a4 hs4 d0 d1
      walk_at "rd"
      generalize decide ((0 : Int) < d) = b0
      refine ⟨fun σ' H' => ∃ (le : Addr) (leN : List Nat), σ' = [some (.ref st), some (.str lg), some (.str r.str), some (.ref S), some (.int (m : Nat)), some (.ref D), some (.bl (logicB lg)), some (.ref th), some (.bl b0), some (.ref le), none, none, none, none, none, none, none, none, none, none, none, none] ∧
        ShS M st S D lg ns H' ∧ Tp M H' th (nVl thN) ∧ Tp M H' le (nVl leN) ∧ RwO ns.length leN ∧ leN.length ≤ 50 ∧ Adv [st] H H', ?_, ?_⟩
      · walk_at "rd"
        refine ⟨by show 3 ≤ sizeLine; decide, fun p1 m1 => ?_⟩
        have b : Adv [] H4 (upd H4 p1 (.tup [.int 1, .int 3, .int 5])) := Adv.new m1
        have hp1 : (upd H4 p1 (.tup [.int 1, .int 3, .int 5])) p1 = some (.tup [.int 1, .int 3, .int 5]) := upd_same
        have p1M := not_mem_new Sh.al m1
        replace Sh := Sh.same b
        replace tth := tth.adv b.nil
        replace a := a.trans (Adv.nil b)
        generalize (upd H4 p1 (.tup [.int 1, .int 3, .int 5])) = H5 at b hp1 Sh tth a
        clear b m1
        walk_at "rd"
        refine ⟨st, p1, [.int 1, .int 3, .int 5], _, rfl, Sh.str, .inr hp1, fun z => p1M (by rw [z]; exact Sh.ms), by simp, by simp, fun x H6 hx hs6 a6 => ?_⟩
        obtain ⟨n, rfl⟩ : ∃ n : Int, x = .int n := by
          simp only [List.mem_cons, List.not_mem_nil, or_false] at hx
          rcases hx with rfl | rfl | rfl <;> exact ⟨_, rfl⟩
        replace Sh := Sh.next a6 hs6
        replace tth := tth.adv (a6.more sM1)
        replace a := a.trans a6
        clear a6 hs6 hp1 hx
        walk_at "rd"
        refine ⟨by show 1 ≤ sizeLine; decide, fun p2 m2 => ?_⟩
        have b : Adv [] H6 (upd H6 p2 (.lst [.int (m : Nat)])) := Adv.new m2
        have hp2 : (upd H6 p2 (.lst [.int (m : Nat)])) p2 = some (.lst [.int (m : Nat)]) := upd_same
        have p2M := not_mem_new Sh.al m2
        replace Sh := Sh.same b
        replace tth := tth.adv b.nil
        replace a := a.trans (Adv.nil b)
        generalize (upd H6 p2 (.lst [.int (m : Nat)])) = H7 at b hp2 Sh tth a
        clear b m2
        walk_at "rd"
        refine iteB (fun e => ?_) (fun e => ?_)
        · walk_at "rd"
          refine ⟨_, rfl, ⟨_, rfl⟩, ?_⟩
          walk_at "rd"
          refine ⟨_, _, rfl, rfl, ?_⟩
          walk_at "rd"
          refine iteB (fun e2 => ?_) (fun e2 => ?_)
          · walk_at "rd"
            refine .inr ⟨true, rfl, sid_end Sh hm hp2 fun t out H' tl rl zl Sh' a' => ?_⟩
            walk_at "rd"
            exact ⟨t, out, rfl, Sh', tth.adv (a'.more sM1), tl, rl, zl, a.trans a'⟩
          · walk_at "rd"
            refine .inr ⟨_, rfl, sid_end Sh hm hp2 fun t out H' tl rl zl Sh' a' => ?_⟩
            walk_at "rd"
            exact ⟨t, out, rfl, Sh', tth.adv (a'.more sM1), tl, rl, zl, a.trans a'⟩
        · walk_at "rd"
          refine .inr ⟨false, rfl, sid_end Sh hm hp2 fun t out H' tl rl zl Sh' a' => ?_⟩
          walk_at "rd"
          exact ⟨t, out, rfl, Sh', tth.adv (a'.more sM1), tl, rl, zl, a.trans a'⟩
      · clear Sh tth a
        rintro σ' H4 ⟨le, leN, rfl, Sh, tth, tle, rle, zle, a⟩
        walk_at "rd"
        refine ⟨fun σ' H' => ∃ (ri : Addr) (riN : List Nat), σ' = [some (.ref st), some (.str lg), some (.str r.str), some (.ref S), some (.int (m : Nat)), some (.ref D), some (.bl (logicB lg)), some (.ref th), some (.bl b0), some (.ref le), some (.ref ri), none, none, none, none, none, none, none, none, none, none, none] ∧
          ShS M st S D lg ns H' ∧ Tp M H' th (nVl thN) ∧ Tp M H' le (nVl leN) ∧ Tp M H' ri (nVl riN) ∧ RwO ns.length riN ∧ riN.length ≤ 50 ∧ Adv [st] H H', ?_, ?_⟩
        · walk_at "rd"
          refine ⟨by show 2 ≤ sizeLine; decide, fun p1 m1 => ?_⟩
          have b : Adv [] H4 (upd H4 p1 (.tup [.int 1, .int 3])) := Adv.new m1
          have hp1 : (upd H4 p1 (.tup [.int 1, .int 3])) p1 = some (.tup [.int 1, .int 3]) := upd_same
          have p1M := not_mem_new Sh.al m1
          replace Sh := Sh.same b
          replace tth := tth.adv b.nil
          replace tle := tle.adv b.nil
          replace a := a.trans (Adv.nil b)
          generalize (upd H4 p1 (.tup [.int 1, .int 3])) = H5 at b hp1 Sh tth tle a
          clear b m1
          walk_at "rd"
          refine ⟨st, p1, [.int 1, .int 3], _, rfl, Sh.str, .inr hp1, fun z => p1M (by rw [z]; exact Sh.ms), by simp, by simp, fun x H6 hx hs6 a6 => ?_⟩
          obtain ⟨n, rfl⟩ : ∃ n : Int, x = .int n := by
            simp only [List.mem_cons, List.not_mem_nil, or_false] at hx
            rcases hx with rfl | rfl <;> exact ⟨_, rfl⟩
          replace Sh := Sh.next a6 hs6
          replace tth := tth.adv (a6.more sM1)
          replace tle := tle.adv (a6.more sM1)
          replace a := a.trans a6
          clear a6 hs6 hp1 hx
          walk_at "rd"
          refine ⟨by show 1 ≤ sizeLine; decide, fun p2 m2 => ?_⟩
          have b : Adv [] H6 (upd H6 p2 (.lst [.int (m : Nat)])) := Adv.new m2
          have hp2 : (upd H6 p2 (.lst [.int (m : Nat)])) p2 = some (.lst [.int (m : Nat)]) := upd_same
          have p2M := not_mem_new Sh.al m2
          replace Sh := Sh.same b
          replace tth := tth.adv b.nil
          replace tle := tle.adv b.nil
          replace a := a.trans (Adv.nil b)
          generalize (upd H6 p2 (.lst [.int (m : Nat)])) = H7 at b hp2 Sh tth tle a
          clear b m2
          walk_at "rd"
          refine iteB (fun e => ?_) (fun e => ?_)
          · walk_at "rd"
            refine ⟨_, rfl, ⟨_, rfl⟩, ?_⟩
            walk_at "rd"
            refine ⟨_, _, rfl, rfl, ?_⟩
            walk_at "rd"
            refine iteB (fun e2 => ?_) (fun e2 => ?_)
            · walk_at "rd"
              refine .inr ⟨true, rfl, sid_end Sh hm hp2 fun t out H' tl rl zl Sh' a' => ?_⟩
              walk_at "rd"
              exact ⟨t, out, rfl, Sh', tth.adv (a'.more sM1), tle.adv (a'.more sM1), tl, rl, zl, a.trans a'⟩
            · walk_at "rd"
              refine ⟨by show 2 ≤ sizeLine; decide, fun p3 m3 => ?_⟩
              have b : Adv [] H7 (upd H7 p3 (.tup [.str "axiom", .str "box"])) := Adv.new m3
              have hp3 : (upd H7 p3 (.tup [.str "axiom", .str "box"])) p3 = some (.tup [.str "axiom", .str "box"]) := upd_same
              replace Sh := Sh.same b
              replace tth := tth.adv b.nil
              replace tle := tle.adv b.nil
              replace hp2 := b.same _ _ hp2
              replace a := a.trans (Adv.nil b)
              generalize (upd H7 p3 (.tup [.str "axiom", .str "box"])) = H8 at b hp2 hp3 Sh tth tle a
              clear b m3
              refine ⟨p3, _, rfl, .inr (SqT.of hp3), rfl, rfl, ?_⟩
              clear hp3
              walk_at "rd"
              refine .inr ⟨_, rfl, sid_end Sh hm hp2 fun t out H' tl rl zl Sh' a' => ?_⟩
              walk_at "rd"
              exact ⟨t, out, rfl, Sh', tth.adv (a'.more sM1), tle.adv (a'.more sM1), tl, rl, zl, a.trans a'⟩
          · walk_at "rd"
            refine .inr ⟨false, rfl, sid_end Sh hm hp2 fun t out H' tl rl zl Sh' a' => ?_⟩
            walk_at "rd"
            exact ⟨t, out, rfl, Sh', tth.adv (a'.more sM1), tle.adv (a'.more sM1), tl, rl, zl, a.trans a'⟩
        · clear Sh tth tle a
          rintro σ' H4 ⟨ri, riN, rfl, Sh, tth, tle, tri, rri, zri, a⟩
          walk_at "rd"
          intro p np
          refine ⟨upd_same, [((Sum.inr "axiom" : Key), V.int 0), (Sum.inr "no", .int 0), (Sum.inr "or left", .int 2), (Sum.inr "if left", .int 2), (Sum.inr "and right", .int 2), (Sum.inr "cut", .int 2)], rfl, by decide, p, rfl, .inl ⟨_, .inl upd_same⟩, _, rfl, _, DGet.k (k := Sum.inr r.str) upd_same, ?_⟩
          rw [cnt_get, upd_upd]
          have b : Adv [] H4 (upd H4 p (.dK (mergeK [] [((Sum.inr "axiom" : Key), V.int 0), (Sum.inr "no", .int 0), (Sum.inr "or left", .int 2), (Sum.inr "if left", .int 2), (Sum.inr "and right", .int 2), (Sum.inr "cut", .int 2)]))) := Adv.new np
          replace Sh := Sh.same b
          replace tth := tth.adv b.nil
          replace tle := tle.adv b.nil
          replace tri := tri.adv b.nil
          replace a := a.trans (Adv.nil b)
          generalize (upd H4 p (.dK (mergeK [] [((Sum.inr "axiom" : Key), V.int 0), (Sum.inr "no", .int 0), (Sum.inr "or left", .int 2), (Sum.inr "if left", .int 2), (Sum.inr "and right", .int 2), (Sum.inr "cut", .int 2)]))) = H5 at b Sh tth tle tri a
          clear b np
          walk_at "rd"
          refine ⟨fun σ' H' => ∃ (le : Addr) (leN : List Nat), σ' = [some (.ref st), some (.str lg), some (.str r.str), some (.ref S), some (.int (m : Nat)), some (.ref D), some (.bl (logicB lg)), some (.ref th), some (.bl b0), some (.ref le), some (.ref ri), some (.int (r.cnt : Nat)), none, none, none, none, none, none, none, none, none, none] ∧
            ShS M st S D lg ns H' ∧ Tp M H' th (nVl thN) ∧ Tp M H' le (nVl leN) ∧ RwO ns.length leN ∧ leN.length ≤ 60 ∧ Tp M H' ri (nVl riN) ∧ Adv [st] H H', ?_, ?_⟩
          · have same : ∃ (le' : Addr) (leN' : List Nat), [some (V.ref st), some (.str lg), some (.str r.str), some (.ref S), some (.int (m : Nat)), some (.ref D), some (.bl (logicB lg)), some (.ref th), some (.bl b0), some (.ref le), some (.ref ri), some (.int (r.cnt : Nat)), none, none, none, none, none, none, none, none, none, none] = [some (.ref st), some (.str lg), some (.str r.str), some (.ref S), some (.int (m : Nat)), some (.ref D), some (.bl (logicB lg)), some (.ref th), some (.bl b0), some (.ref le'), some (.ref ri), some (.int (r.cnt : Nat)), none, none, none, none, none, none, none, none, none, none] ∧
              ShS M st S D lg ns H5 ∧ Tp M H5 th (nVl thN) ∧ Tp M H5 le' (nVl leN') ∧ RwO ns.length leN' ∧ leN'.length ≤ 60 ∧ Tp M H5 ri (nVl riN) ∧ Adv [st] H H5 := ⟨le, leN, rfl, Sh, tth, tle, rle, by omega, tri, a⟩
            walk_at "rd"
            refine iteB (fun e => ?_) (fun e => ?_)
            · walk_at "rd"
              refine iteB (fun e2 => ?_) (fun e2 => ?_)
              · clear same
                walk_at "rd"
                refine ⟨by show 1 ≤ sizeLine; decide, fun p1 m1 => ?_⟩
                have b : Adv [] H5 (upd H5 p1 (.tup [.int 0])) := Adv.new m1
                have tp1 : Tp M (upd H5 p1 (.tup [.int 0])) p1 (nVl [0]) := Tp.of upd_same (not_mem_new Sh.al m1)
                replace Sh := Sh.same b
                replace tth := tth.adv b.nil
                replace tle := tle.adv b.nil
                replace tri := tri.adv b.nil
                replace a := a.trans (Adv.nil b)
                generalize (upd H5 p1 (.tup [.int 0])) = H6 at b tp1 Sh tth tle tri a
                clear b m1
                refine rd_catM A.W Sh.al tle tp1 (by rw [nVl_len, nVl_len, sizeLine_eq]; show _ + 1 ≤ _; omega) fun c H7 tc b => ?_
                have ec : nVl leN ++ nVl [0] = nVl (leN ++ [0]) := by unfold nVl; rw [List.map_append]
                rw [ec] at tc
                replace Sh := Sh.same b
                replace tth := tth.adv b.nil
                replace tri := tri.adv b.nil
                replace a := a.trans (Adv.nil b)
                clear b tp1
                refine srt_go (leN ++ [0]) (.inr (tc.sq A.W)) (by rw [List.length_append]; show _ + 1 ≤ _; omega) fun u H8 nu hu b => ?_
                have uM := not_mem_new Sh.al nu
                have zl := srtN_len (leN ++ [0])
                rw [List.length_append] at zl
                have zl : (srtN (leN ++ [0])).length ≤ leN.length + 1 := zl
                walk_at "rd"
                refine ⟨u, srtN (leN ++ [0]), rfl, Sh.same b, tth.adv b.nil, Tp.of hu uM, RwO.srt (fun x hx => ?_) (by rw [List.length_append]; show _ + 1 ≤ _; omega), by omega, tri.adv b.nil, a.trans (Adv.nil b)⟩
                rcases List.mem_append.mp hx with h | h
                · exact rle.lt x h
                · rw [List.mem_singleton.mp h]; exact npos
              · walk_at "rd"
                exact same
            · walk_at "rd"
              exact same
          · clear Sh tth tle tri a rle zle
            rintro σ' H5 ⟨le, leN, rfl, Sh, tth, tle, rle, zle, tri, a⟩
            refine ⟨fun σ' H' => MidC M st H lg r σ' H', ?_, fun σ' H' z => q2 σ' H' z⟩
            walk_at "rd"
            rw [no_str]
            refine iteB (fun e => ?_) (fun e => ?_)
            · have en : r = .no := of_decide_eq_true e
              walk_at "rd"
              exact ⟨⟨S, D, th, le, ri, -1, .bl b0, ns, thN, leN, riN, rfl, hlg, Sh, tth, rth, cth, tle, rle, tri, rri, by omega, by omega, fun _ => rfl, fun z => absurd en z, a⟩⟩
            · have en : ¬ r = .no := of_decide_eq_false e
              walk_at "rd"
              exact ⟨⟨S, D, th, le, ri, (m : Nat), .bl b0, ns, thN, leN, riN, rfl, hlg, Sh, tth, rth, cth, tle, rle, tri, rri, by omega, by omega, fun z => absurd z en, fun _ => ⟨m, rfl, hm⟩, a⟩⟩
end

set_option Elab.async false
set_option linter.all false
set_option maxRecDepth 100000
set_option maxHeartbeats 4000000
open PySem PySem.Spec PyProof.Rows L2 LL
open C8 (pss_cut)
section
variable [KW]
variable {P : Program} {w : World} {K : PySem.W.Frag} {mg : Str → Option Value} {base : Heap}
theorem passN0 {X : Cx} : Passes (L2N.CX X.prog X.w) X E0 := fun pins σ H s e s' _ h => by
  obtain ⟨_, _, _, _, _, _, _, _, _, _, _, _, e⟩ := h
  exact e.elim
/-! ### law -/
theorem nds_dep (ns : List Nd) : depL (ns.map Nd.data) ≤ 1 := by
  induction ns with
  | nil => rw [List.map_nil, depL_nil]; omega
  | cons n ns ih =>
    have := nd_dep n
    rw [List.map_cons, depL_cons]; omega
theorem cl_dep (ns : List Nd) (th le ri : List Nat) : dep (clD ns th le ri) ≤ 8 := by
  have := nds_dep ns
  unfold clD
  simp only [dep_tup, depL_cons, depL_nil, dep_lst, nD_dep]; omega
theorem dep_str1 (x : Str) : dep (.str x) = 0 := by unfold dep; rfl
theorem dep_int1 (x : Int) : dep (.int x) = 0 := by unfold dep; rfl
theorem lns_dep (ls : List Ln) : depL (ls.map Ln.data) ≤ 2 := by
  induction ls with
  | nil => rw [List.map_nil, depL_nil]; omega
  | cons k ls ih =>
    have : dep k.data ≤ 2 := by
      unfold Ln.data
      simp only [dep_tup, depL_cons, depL_nil, nD_dep, dep_str1, dep_int1]; omega
    rw [List.map_cons, depL_cons]; omega
theorem pp_dep (ns : List Nd) (ls : List Ln) : dep (ppD ns ls) ≤ 8 := by
  have := nds_dep ns
  have := lns_dep ls
  unfold ppD
  simp only [dep_tup, depL_cons, depL_nil, dep_lst]; omega
def spLaw (K : PySem.W.Frag) : Sp := fun vs H Q _ => ∃ (a : Addr) (ns : List Int), vs = [.ref a] ∧ SqL K H a (ns.map V.int) ∧ ns.length ≤ 63 ∧ ∀ H', Q (.bl true) H'
theorem ok_law (A : All K mg w) (G : Rul K mg) (Z : Exs K mg) (ZL : Er_BadLogic Z) (Z1 : Er_BadSheet Z) (Z3 : Er_BadClaim Z) (Z4 : Er_BadValue Z) : FnOk P w K mg base CX0 12 A.law.f A.law.fd ["script"] (spLaw K) := by
  refine A.law.F.ok sc_law (fun vs H Q E h => ?_) (fun cdv Ar outer s0 H vs Q E hr h => ?_)
  · obtain ⟨a, ns, rfl, _⟩ := h
    rfl
  · obtain ⟨a, ns, rfl, hS, hl, q⟩ := h
    refine ⟨_, (pss_cons (ps_set (i := 1) sc_law.nd rfl (Or.inl rfl) (pe_call (ok_law_stream A) (hr.mono (by omega)) rfl A.law_stream.m A.law_stream.F.kp A.law_stream.b .nil pass0 (pa_cons (pv 0) pa_nil)))
  (pss_cons (ps_set (i := 2) sc_law.nd rfl (Or.inl rfl) (pe_call (ok_law_logic A) (hr.mono (by omega)) rfl A.law_logic.m A.law_logic.F.kp A.law_logic.b .nil pass0 (pa_cons (pv 1) pa_nil)))
  (pss_cons (ps_set (i := 3) sc_law.nd rfl (Or.inl rfl) (pe_call (ok_law_shuffled A) (hr.mono (by omega)) rfl A.law_shuffled.m A.law_shuffled.F.kp A.law_shuffled.b .nil pass0 (pa_cons (pv 1) (pa_cons (pe_call0 (ok_law_words A) (hr.mono (by omega)) rfl A.law_words.m A.law_words.F.kp A.law_words.b .nil pass0) pa_nil))))
  (pss_cons (ps_for PassesOwn.never rfl (pi_list (pe_op op_cat (pe_op op_cat (pv 3) (pv 3)) (pe_lst (pa_cons pe_str (pa_cons pe_str (pa_cons pe_str (pa_cons pe_str pa_nil))))))) (pg_name (i := 4) sc_law.nd rfl (Or.inl rfl))
    (pss_cons (ps_asg (pe_call (ok_law_single A) (hr.mono (by omega)) rfl A.law_single.m A.law_single.F.kp A.law_single.b .nil pass0 (pa_cons (pv 1) (pa_cons (pv 2) (pa_cons (pv 4) pa_nil)))) (pg_tup rfl (pgs_cons (pg_name (i := 5) sc_law.nd rfl (Or.inl rfl)) (pgs_cons (pg_name (i := 6) sc_law.nd rfl (Or.inl rfl)) pgs_nil))))
  (pss_cons (ps_par (i := 7) (j := 8) (by rfl) sc_law.nd rfl rfl (by decide) rfl rfl (pa_cons (pe_call (ok_law_copy A 8) (hr.mono (by omega)) rfl A.law_copy.m A.law_copy.F.kp A.law_copy.b .nil pass0 (pa_cons (pv 5) pa_nil)) (pa_cons (pe_call (ok_law_copy A 8) (hr.mono (by omega)) rfl A.law_copy.m A.law_copy.F.kp A.law_copy.b .nil pass0 (pa_cons (pv 6) pa_nil)) pa_nil)) (by rfl))
  (pss_cut (ps_set (i := 9) sc_law.nd rfl (Or.inl rfl) (pe_or (pe_cmpR op_ne (pv 4) pe_str (nomark _)) (pe_one (pe_cmpR op_gt (pe_call (ok_law_next A) (hr.mono (by omega)) rfl A.law_next.m A.law_next.F.kp A.law_next.b .nil pass0 (pa_cons (pv 1) (pa_cons pe_int pa_nil))) pe_int (nomark _)))))
  (pss_cut (ps_set (i := 10) sc_law.nd rfl (Or.inl rfl) (pe_and (pv 9) (pe_one (pe_call (ok_law_is_right A) (hr.mono (by omega)) rfl A.law_is_right.m A.law_is_right.F.kp A.law_is_right.b .nil pass0 (pa_cons (pv 2) (pa_cons (pe_ix ix_tup (pv 6) pe_int (fun _ _ => rfl)) (pa_cons (pe_ix ix_tup (pv 5) pe_int (fun _ _ => rfl)) (pa_cons (pe_ix ix_tup (pv 6) pe_int (fun _ _ => rfl)) (pa_cons (pe_op op_sub (pe_callB call_len_seq (by rfl) A.T.len PySem.boot_len (pa_cons (pe_ix ix_tup (pv 6) pe_int (fun _ _ => rfl)) pa_nil)) pe_int) (pa_cons pe_bl pa_nil))))))))))
  (pss_cons (ps_if (pt_not (pt_val (pe_call (ok_law_same A) (hr.mono (by omega)) rfl A.law_same.m A.law_same.F.kp A.law_same.b .nil pass0 (pa_cons (pe_call (ok_is_derivation A G Z ZL Z1 Z3 Z4) (hr.mono (by omega)) rfl A.is_derivation.m A.is_derivation.F.kp A.is_derivation.b .nil passN0 (pa_cons (pv 2) (pa_cons (pv 7) (pa_cons (pv 8) (pa_cons (pv 9) pa_nil))))) (pa_cons (pv 10) pa_nil)))))
    (pss_one (ps_ret pe_bl))
    pss_nil)
  (pss_one (ps_if (PW.pt (pw_or (pt_not (pt_val (pe_call (ok_law_same A) (hr.mono (by omega)) rfl A.law_same.m A.law_same.F.kp A.law_same.b .nil pass0 (pa_cons (pv 7) (pa_cons (pv 5) pa_nil))))) (pw_or1 (pt_not (pt_val (pe_call (ok_law_same A) (hr.mono (by omega)) rfl A.law_same.m A.law_same.F.kp A.law_same.b .nil pass0 (pa_cons (pv 8) (pa_cons (pv 6) pa_nil))))))))
    (pss_one (ps_ret pe_bl))
    pss_nil))))))))
  (pss_one (ps_ret pe_bl)))))), ?_⟩
    walk_at "rd"
    refine ⟨a, ns, rfl, hS, hl, fun st H1 ns0 hs1 a1 => ?_⟩
    have hs1 : StrAt [st] H1 st := by
      obtain ⟨l, ms, c, k, h1, h2, h3, h4, h5⟩ := hs1
      refine ⟨l, ms, c, k, h1, h2, h3, h4, fun z => ?_⟩
      have e : l = st := by simpa using z
      exact ne_of h2 h1 (ne_lst_ints).symm e
    have al : ∀ {H' : Hp}, StrAt [st] H' st → ∀ b ∈ [st], H' b ≠ none := fun h b hb => by rw [List.mem_singleton.mp hb]; exact h.here
    clear hS a1
    walk_at "rd"
    refine ⟨⟨[st], st, rfl, hs1, fun lg H2 hlg hs2 a2 => ?_⟩⟩
    clear hs1 a2
    walk_at "rd"
    refine ⟨⟨rfl, fun p H3 np hp a3 => ?_⟩⟩
    have hs3 := hs2.same a3
    clear hs2 a3
    walk_at "rd"
    refine ⟨⟨[st], st, p, _, rfl, hs3, SqT.of hp, by decide, fun R rs' H4 nR hR rl rm hs4 a4 => ?_⟩⟩
    clear hs3 hp np
    have rl : rs'.length = 12 := rl
    walk_at "rd"
    unfold iList
    walk_at "rd"
    refine rd_cat hR hR (by rw [rl, sizeLine_eq]; decide) fun R2 n2 => ?_
    have b : Adv [] H4 (upd H4 R2 (.lst (rs' ++ rs'))) := Adv.new n2
    have hR2 : (upd H4 R2 (.lst (rs' ++ rs'))) R2 = some (.lst (rs' ++ rs')) := upd_same
    have hs5 := hs4.same b
    generalize (upd H4 R2 (.lst (rs' ++ rs'))) = H5 at b hR2 hs5
    clear b n2 hs4 hR nR a4
    walk_at "rd"
    refine ⟨by show 4 ≤ sizeLine; decide, fun R3 n3 => ?_⟩
    have b : Adv [] H5 (upd H5 R3 (.lst [.str "box", .str "box", .str "box", .str "if right"])) := Adv.new n3
    have hR3 : (upd H5 R3 (.lst [.str "box", .str "box", .str "box", .str "if right"])) R3 = some (.lst [.str "box", .str "box", .str "box", .str "if right"]) := upd_same
    replace hs5 := hs5.same b
    replace hR2 := b.same _ _ hR2
    generalize (upd H5 R3 (.lst [.str "box", .str "box", .str "box", .str "if right"])) = H6 at b hR2 hR3 hs5
    clear b n3
    refine rd_cat hR2 hR3 (by rw [List.length_append, rl, sizeLine_eq]; decide) fun R4 n4 => ?_
    have b : Adv [] H6 (upd H6 R4 (.lst (rs' ++ rs' ++ [.str "box", .str "box", .str "box", .str "if right"]))) := Adv.new n4
    have hR4 : (upd H6 R4 (.lst (rs' ++ rs' ++ [.str "box", .str "box", .str "box", .str "if right"]))) R4 = some (.lst (rs' ++ rs' ++ [.str "box", .str "box", .str "box", .str "if right"])) := upd_same
    have R4s : R4 ≠ st := fun z => hs5.here (by rw [← z]; exact n4)
    replace hs5 := hs5.same b
    have rr : ∀ x ∈ rs' ++ rs' ++ [.str "box", .str "box", .str "box", .str "if right"], ∃ r : Rl, x = V.str r.str := fun x hx => by
      rcases List.mem_append.mp hx with h | h
      · obtain ⟨r, _, e⟩ := List.mem_map.mp (rm x ((List.mem_append.mp h).elim id id))
        exact ⟨r, e.symm⟩
      · simp only [List.mem_cons, List.not_mem_nil, or_false] at h
        rcases h with rfl | rfl | rfl | rfl
        · exact ⟨.box, rfl⟩
        · exact ⟨.box, rfl⟩
        · exact ⟨.box, rfl⟩
        · exact ⟨.ifR, rfl⟩
    generalize (upd H6 R4 (.lst (rs' ++ rs' ++ [.str "box", .str "box", .str "box", .str "if right"]))) = H7 at b hR4 hs5
    clear b n4 hR2 hR3
    generalize rs' ++ rs' ++ [V.str "box", .str "box", .str "box", .str "if right"] = xs at hR4 rr
    refine ⟨R4, rfl, ⟨_, SqL.of hR4⟩, ?_⟩
    refine for_list (a := R4) (xs := xs) (fun i σ' H' => ∃ y4 y5 y6 y7 y8 y9 y10, σ' = [some (.ref a), some (.ref st), some (.str lg), some (.ref R), y4, y5, y6, y7, y8, y9, y10] ∧ StrAt [st] H' st ∧ H' R4 = some (.lst xs))
      ⟨_, _, _, _, _, _, _, rfl, hs5, hR4⟩ ?_ ?_ ?_
    · rintro i σ' H' hi ⟨y4, y5, y6, y7, y8, y9, y10, rfl, hs, hR⟩
      exact SqL.of hR
    rotate_left
    · rintro σ' H' ⟨y4, y5, y6, y7, y8, y9, y10, rfl, hs, hR⟩
      walk_at "rd"
      exact q H'
    rintro i x σ' H1 hx ⟨y4, y5, y6, y7, y8, y9, y10, rfl, hs1, hR⟩
    obtain ⟨r, rfl⟩ := rr x (List.mem_of_getElem? hx)
    clear hs5 hR4 hx
    walk_at "rd"
    refine ⟨⟨[st], st, lg, r, rfl, hs1, by simp, al hs1, hlg, fun v ns th le ri ls l H2 hv Sg hs2 a2 => ?_⟩⟩
    replace hR := a2 _ _ (notin1 R4s) hR
    clear hs1 a2
    obtain ⟨t, us, rfl, tpv, isv⟩ := hv.tupE
    obtain ⟨c, p2, rfl, ic, ip⟩ := IsDs.two isv
    have sqv := tpv.sq (K := K) A.W
    walk_at "rd"
    refine rd_gtup sqv rfl ?_
    clear sqv tpv isv hv
    walk_at "rd"
    have zc := Sg.zc
    have zp := Sg.zp
    refine ⟨c, _, [st], rfl, al hs2, ic, cl_dep ns th le ri, by omega, fun c2 H3 ic2 a3 => ?_⟩
    replace hs2 := hs2.same a3
    replace hR := a3.same _ _ hR
    replace ic := ic.adv a3.nil
    replace ip := ip.adv a3.nil
    clear a3
    walk_at "rd"
    refine ⟨p2, _, [st], rfl, al hs2, ip, pp_dep ns _, by omega, fun p3 H4 ip2 a4 => ?_⟩
    replace hs2 := hs2.same a4
    replace hR := a4.same _ _ hR
    replace ic := ic.adv a4.nil
    replace ip := ip.adv a4.nil
    replace ic2 := ic2.adv a4.nil
    clear a4
    walk_at "rd"
    refine ⟨fun σ' H' => ∃ cuts : Bool, σ' = [some (.ref a), some (.ref st), some (.str lg), some (.ref R), some (.str r.str), some c, some p2, some c2, some p3, some (.bl cuts), y10] ∧ (cuts = false → r = .cut) ∧ StrAt [st] H' st ∧ H' R4 = some (.lst xs) ∧
      Is [st] H' (clD ns th le ri) c ∧ Is [st] H' (ppD ns (ls ++ [l])) p2 ∧ Is [st] H' (clD ns th le ri) c2 ∧ Is [st] H' (ppD ns (ls ++ [l])) p3, ?_, ?_⟩
    · walk_at "rd"
      rw [cut_str]
      refine iteB (fun e => ?_) (fun e => ?_)
      · walk_at "rd"
        exact ⟨true, rfl, (fun z => by cases z), hs2, hR, ic, ip, ic2, ip2⟩
      · have er : r = .cut := by simpa using e
        walk_at "rd"
        refine ⟨st, 4, [st], rfl, hs2, by decide, by decide, fun d H5 d0 d1 hs5 a5 => ?_⟩
        walk_at "rd"
        exact ⟨_, rfl, fun _ => er, hs5, a5 _ _ (notin1 R4s) hR, ic.adv a5, ip.adv a5, ic2.adv a5, ip2.adv a5⟩
    · clear hs2 hR ic ip ic2 ip2
      rintro σ' H5 ⟨cuts, rfl, hcut, hs, hR, ic, ip, ic2, ip2⟩
      walk_at "rd"
      refine ⟨fun σ' H' => σ' = [some (.ref a), some (.ref st), some (.str lg), some (.ref R), some (.str r.str), some c, some p2, some c2, some p3, some (.bl cuts), some (.bl (cuts && rightL lg ns th true (ls ++ [l]) l))] ∧ StrAt [st] H' st ∧ H' R4 = some (.lst xs) ∧
        Is [st] H' (clD ns th le ri) c ∧ Is [st] H' (ppD ns (ls ++ [l])) p2 ∧ Is [st] H' (clD ns th le ri) c2 ∧ Is [st] H' (ppD ns (ls ++ [l])) p3, ?_, ?_⟩
      · walk_at "rd"
        refine iteB (fun e => ?_) (fun e => ?_)
        · subst e
          obtain ⟨ca, cu, rfl, tpc, isc⟩ := ic.tupE
          obtain ⟨s1, t1, l1, r1, rfl, j1, j2, j3, j4⟩ := IsDs.four isc
          obtain ⟨pa, pu, rfl, tpp, isp⟩ := ip.tupE
          obtain ⟨s2, l2, rfl, k1, k2⟩ := IsDs.two isp
          obtain ⟨ta, tu, rfl, tpt, ist⟩ := j2.tupE
          obtain rfl := nD_of ist
          obtain ⟨sa, rs, rfl, saM, hsa, irs⟩ := k1.lstE
          obtain ⟨la, lvs, rfl, laM, hla, ilv⟩ := k2.lstE
          have sqc := tpc.sq (K := K) A.W
          have sqp := tpp.sq (K := K) A.W
          have lvl := ilv.len
          rw [List.length_map, List.length_append, List.length_singleton] at lvl
          walk_at "rd"
          have wl := Sg.wf ls.length l (by simp)
          refine ⟨⟨[st], lg, sa, ta, la, rs, lvs, ns, th, ls ++ [l], l, ls.length, true, ?_, al hs, hsa, irs, tpt, hla, ilv, by simp, wl.2.1, fun k hk => ?_, fun p hp => ?_, wl.1.cnt, hlg, Sg.ok.1, fun H6 a6 => ?_⟩⟩
          · rw [show ((lvs.length : Nat) : Int) - 1 = (ls.length : Nat) from by omega]
            rfl
          · obtain ⟨i, hi⟩ := List.getElem?_of_mem hk
            have := (Sg.wf i k hi).2.1
            exact ⟨this.z1, this.z2⟩
          · have := wl.1.prem p hp
            rw [List.length_append]; omega
          · walk_at "rd"
            exact ⟨rfl, hs.same a6, a6.same _ _ hR, ic.adv a6.nil, ip.adv a6.nil, ic2.adv a6.nil, ip2.adv a6.nil⟩
        · subst e
          walk_at "rd"
          exact ⟨rfl, hs, hR, ic, ip, ic2, ip2⟩
      · clear hs hR ic ip ic2 ip2
        rintro σ' H6 ⟨rfl, hs, hR, ic, ip, ic2, ip2⟩
        walk_at "rd"
        refine ⟨⟨[st], lg, c2, p3, cuts, ns, th, le, ri, ls, l, rfl, al hs, ic2, ip2, hlg, Sg.cm, by omega, fun i k hi => ?_, Sg.left, Sg.right, fun H7 a7 => ?_⟩⟩
        · obtain ⟨h1, h2, h3⟩ := Sg.wf i k hi
          exact ⟨h1, h2, by omega⟩
        · rw [Sg.due cuts hcut]
          replace hs := hs.same a7
          replace hR := a7.same _ _ hR
          replace ic := ic.adv a7.nil
          replace ip := ip.adv a7.nil
          replace ic2 := ic2.adv a7.nil
          replace ip2 := ip2.adv a7.nil
          clear a7
          walk_at "rd"
          refine ⟨_, _, .bool (cuts && rightL lg ns th true (ls ++ [l]) l), rfl, .bl, .bl, by unfold sz; decide, fun H8 a8 => ?_⟩
          refine ⟨_, rfl, iteN rfl ?_⟩
          walk_at "rd"
          refine ⟨_, _, clD ns th le ri, rfl, (ic2.adv a8.nil).less (by simp), (ic.adv a8.nil).less (by simp), by omega, fun H9 a9 => ?_⟩
          refine ⟨_, rfl, iteN rfl ?_⟩
          walk_at "rd"
          have a89 := a8.trans a9
          refine ⟨_, _, ppD ns (ls ++ [l]), rfl, (ip2.adv a89.nil).less (by simp), (ip.adv a89.nil).less (by simp), by omega, fun H10 a10 => ?_⟩
          refine ⟨_, rfl, iteN rfl ?_⟩
          have b := a89.trans a10
          exact ⟨_, _, _, _, _, _, _, rfl, hs.same b, b.same _ _ hR⟩
end
end K12

set_option Elab.async false
set_option linter.all false
set_option maxRecDepth 100000
set_option maxHeartbeats 0
namespace K12
open PySem PySem.Spec PyProof.Rows L2 LL
/-- the tuples of the written part, and how a tuple key is hashed -/
def kwOf (K : PySem.W.Frag) (P : Program) (w : World) : KW := ⟨fun a vs => ∃ (o : Obj) (its : Array Value) (n : Nat), K.lookup a = some o ∧ o.cls = .type "tuple" ∧ o.data = .seq its n ∧ its.size ≤ sizeLine ∧ Vals vs its.toList, fun ks => (tupleKind (mixKind P w)).hash ks⟩
theorem all_mk {P : Program} {w : World} {K : PySem.W.Frag} {h : Heap} {mg : Str → Option Value} {fa : Addr} (X : K.In h) (G : h.Ns mainGlobals mg) (hfa : mg "law" = some (.ref fa)) (cx : LH.SaysY hFa hFn hTs (LH.allB hEx) w K) :
    ∃ fd : FuncData, (∀ (s : Shared) (v : Value), BindsTo s fd ⟨[v], []⟩ [("script", v)]) ∧ ∀ base : Heap, K.In base → base.Ns mainGlobals mg → FnOk P w K mg base CX0 12 fa fd ["script"] (spLaw K) := by
  have c := cx.t.d
  letI : KW := kwOf K P w
  have W : KWOk K w := ⟨fun a vs h => h, fun P2 ks => rfl⟩
  obtain ⟨D0⟩ := LH.df_of (ps := ["value"]) X G c 0 0 (x := "is_integer") (st := s_is_integer) rfl rfl fun _ _ _ _ _ _ us hl => match us, hl with | [_], _ => rfl
  obtain ⟨D1⟩ := LH.df_of (ps := ["value", "low", "high"]) X G c 1 1 (x := "is_between") (st := s_is_between) rfl rfl fun _ _ _ _ _ _ us hl => match us, hl with | [_, _, _], _ => rfl
  obtain ⟨D2⟩ := LH.df_of (ps := ["value", "many"]) X G c 2 2 (x := "is_tuple_of") (st := s_is_tuple_of) rfl rfl fun _ _ _ _ _ _ us hl => match us, hl with | [_, _], _ => rfl
  obtain ⟨D3⟩ := LH.df_of (ps := ["value", "count"]) X G c 3 3 (x := "are_any_rows") (st := s_are_any_rows) rfl rfl fun _ _ _ _ _ _ us hl => match us, hl with | [_, _], _ => rfl
  obtain ⟨D4⟩ := LH.df_of (ps := ["values"]) X G c 4 4 (x := "is_rising") (st := s_is_rising) rfl rfl fun _ _ _ _ _ _ us hl => match us, hl with | [_], _ => rfl
  obtain ⟨D5⟩ := LH.df_of (ps := ["value", "count"]) X G c 5 5 (x := "are_rows") (st := s_are_rows) rfl rfl fun _ _ _ _ _ _ us hl => match us, hl with | [_, _], _ => rfl
  obtain ⟨D6⟩ := LH.df_of (ps := ["logic"]) X G c 6 6 (x := "check_logic") (st := s_check_logic) rfl rfl fun _ _ _ _ _ _ us hl => match us, hl with | [_], _ => rfl
  obtain ⟨D7⟩ := LH.df_of (ps := ["logic"]) X G c 7 7 (x := "is_boxed") (st := s_is_boxed) rfl rfl fun _ _ _ _ _ _ us hl => match us, hl with | [_], _ => rfl
  obtain ⟨D8⟩ := LH.df_of (ps := ["value", "row", "boxed"]) X G c 8 8 (x := "is_node") (st := s_is_node) rfl rfl fun _ _ _ _ _ _ us hl => match us, hl with | [_, _, _], _ => rfl
  obtain ⟨D9⟩ := LH.df_of (ps := ["value", "most", "boxed"]) X G c 9 9 (x := "wrong_row") (st := s_wrong_row) rfl rfl fun _ _ _ _ _ _ us hl => match us, hl with | [_, _, _], _ => rfl
  obtain ⟨D10⟩ := LH.df_of (ps := ["sheet", "most", "boxed"]) X G c 10 10 (x := "check_rows_of") (st := s_check_rows_of) rfl rfl fun _ _ _ _ _ _ us hl => match us, hl with | [_, _, _], _ => rfl
  obtain ⟨D11⟩ := LH.df_of (ps := ["logic", "claim", "most"]) X G c 11 11 (x := "check_claim_to") (st := s_check_claim_to) rfl rfl fun _ _ _ _ _ _ us hl => match us, hl with | [_, _, _], _ => rfl
  obtain ⟨D12⟩ := LH.df_of (ps := ["logic", "claim"]) X G c 12 12 (x := "check_any_claim") (st := s_check_any_claim) rfl rfl fun _ _ _ _ _ _ us hl => match us, hl with | [_, _], _ => rfl
  obtain ⟨D13⟩ := LH.df_of (ps := ["value", "rows", "at"]) X G c 13 13 (x := "is_line") (st := s_is_line) rfl rfl fun _ _ _ _ _ _ us hl => match us, hl with | [_, _, _], _ => rfl
  obtain ⟨D14⟩ := LH.df_of (ps := ["sheet", "rule", "main"]) X G c 14 14 (x := "added") (st := s_added) rfl rfl fun _ _ _ _ _ _ us hl => match us, hl with | [_, _, _], _ => rfl
  obtain ⟨D15⟩ := LH.df_of (ps := ["logic", "rule"]) X G c 15 15 (x := "keeps_right") (st := s_keeps_right) rfl rfl fun _ _ _ _ _ _ us hl => match us, hl with | [_, _], _ => rfl
  obtain ⟨D16⟩ := LH.df_of (ps := ["premise", "room"]) X G c 16 16 (x := "fits") (st := s_fits) rfl rfl fun _ _ _ _ _ _ us hl => match us, hl with | [_, _], _ => rfl
  obtain ⟨D17⟩ := LH.df_of (ps := ["sheet", "start"]) X G c 17 17 (x := "begins") (st := s_begins) rfl rfl fun _ _ _ _ _ _ us hl => match us, hl with | [_, _], _ => rfl
  obtain ⟨D18⟩ := LH.df_of (ps := ["logic", "claim", "paper"]) X G c 18 18 (x := "is_outside") (st := s_is_outside) rfl rfl fun _ _ _ _ _ _ us hl => match us, hl with | [_, _, _], _ => rfl
  obtain ⟨D19⟩ := LH.df_of (ps := ["claim", "lines"]) X G c 19 19 (x := "is_last") (st := s_is_last) rfl rfl fun _ _ _ _ _ _ us hl => match us, hl with | [_, _], _ => rfl
  obtain ⟨D20⟩ := LH.df_of (ps := ["logic", "claim", "paper", "cuts"]) X G c 20 20 (x := "wrong_place") (st := s_wrong_place) rfl rfl fun _ _ _ _ _ _ us hl => match us, hl with | [_, _, _, _], _ => rfl
  obtain ⟨D21⟩ := LH.df_of (ps := ["logic", "claim", "paper", "cuts"]) X G c 21 21 (x := "wrong_line") (st := s_wrong_line) rfl rfl fun _ _ _ _ _ _ us hl => match us, hl with | [_, _, _, _], _ => rfl
  obtain ⟨D22⟩ := LH.df_of (ps := ["logic", "claim", "paper", "cuts"]) X G c 22 22 (x := "is_derivation") (st := s_is_derivation) rfl rfl fun _ _ _ _ _ _ us hl => match us, hl with | [_, _, _, _], _ => rfl
  obtain ⟨D23⟩ := LH.df_of (ps := ["script"]) X G c 23 23 (x := "_law_stream") (st := s_law_stream) rfl rfl fun _ _ _ _ _ _ us hl => match us, hl with | [_], _ => rfl
  obtain ⟨D24⟩ := LH.df_of (ps := ["stream", "many"]) X G c 24 24 (x := "_law_next") (st := s_law_next) rfl rfl fun _ _ _ _ _ _ us hl => match us, hl with | [_, _], _ => rfl
  obtain ⟨D25⟩ := LH.df_of (ps := ["stream", "rows"]) X G c 25 25 (x := "_law_pick") (st := s_law_pick) rfl rfl fun _ _ _ _ _ _ us hl => match us, hl with | [_, _], _ => rfl
  obtain ⟨D26⟩ := LH.df_of (ps := ["stream", "low", "high"]) X G c 26 26 (x := "_law_from") (st := s_law_from) rfl rfl fun _ _ _ _ _ _ us hl => match us, hl with | [_, _, _], _ => rfl
  obtain ⟨D27⟩ := LH.df_of (ps := ["stream", "rows", "share"]) X G c 27 27 (x := "_law_some") (st := s_law_some) rfl rfl fun _ _ _ _ _ _ us hl => match us, hl with | [_, _, _], _ => rfl
  obtain ⟨D28⟩ := LH.df_of (ps := ["stream", "rows"]) X G c 28 28 (x := "_law_shuffled") (st := s_law_shuffled) rfl rfl fun _ _ _ _ _ _ us hl => match us, hl with | [_, _], _ => rfl
  obtain ⟨D29⟩ := LH.df_of (ps := ["actual", "due"]) X G c 29 29 (x := "_law_same") (st := s_law_same) rfl rfl fun _ _ _ _ _ _ us hl => match us, hl with | [_, _], _ => rfl
  obtain ⟨D30⟩ := LH.df_of (ps := ["value"]) X G c 30 30 (x := "_law_copy") (st := s_law_copy) rfl rfl fun _ _ _ _ _ _ us hl => match us, hl with | [_], _ => rfl
  obtain ⟨D31⟩ := LH.df_of (ps := ["book", "node"]) X G c 31 31 (x := "_law_row") (st := s_law_row) rfl rfl fun _ _ _ _ _ _ us hl => match us, hl with | [_, _], _ => rfl
  obtain ⟨D32⟩ := LH.df_of (ps := ["node"]) X G c 32 32 (x := "_law_parts") (st := s_law_parts) rfl rfl fun _ _ _ _ _ _ us hl => match us, hl with | [_], _ => rfl
  obtain ⟨D33⟩ := LH.df_of (ps := ["stream", "book", "letters"]) X G c 33 33 (x := "_law_leaf") (st := s_law_leaf) rfl rfl fun _ _ _ _ _ _ us hl => match us, hl with | [_, _, _], _ => rfl
  obtain ⟨D34⟩ := LH.df_of (ps := ["stream", "book", "letters", "many", "boxed"]) X G c 34 34 (x := "_law_tree") (st := s_law_tree) rfl rfl fun _ _ _ _ _ _ us hl => match us, hl with | [_, _, _, _, _], _ => rfl
  obtain ⟨D35⟩ := LH.df_of (ps := ["logic"]) X G c 35 35 (x := "_law_is_boxed") (st := s_law_is_boxed) rfl rfl fun _ _ _ _ _ _ us hl => match us, hl with | [_], _ => rfl
  obtain ⟨D36⟩ := LH.df_of (ps := ["logic", "sheet", "theory", "line"]) X G c 36 36 (x := "_law_told") (st := s_law_told) rfl rfl fun _ _ _ _ _ _ us hl => match us, hl with | [_, _, _, _], _ => rfl
  obtain ⟨D37⟩ := LH.df_of (ps := ["logic", "sheet", "theory", "lines", "at", "cuts"]) X G c 37 37 (x := "_law_is_right") (st := s_law_is_right) rfl rfl fun _ _ _ _ _ _ us hl => match us, hl with | [_, _, _, _, _, _], _ => rfl
  obtain ⟨D38⟩ := LH.df_of (ps := ["stream"]) X G c 38 38 (x := "_law_logic") (st := s_law_logic) rfl rfl fun _ _ _ _ _ _ us hl => match us, hl with | [_], _ => rfl
  obtain ⟨D39⟩ := LH.df_of (ps := []) X G c 39 39 (x := "_law_words") (st := s_law_words) rfl rfl fun _ _ _ _ _ _ us hl => match us, hl with | [], _ => rfl
  obtain ⟨D40⟩ := LH.df_of (ps := ["stream", "logic", "rule"]) X G c 40 40 (x := "_law_sheet") (st := s_law_sheet) rfl rfl fun _ _ _ _ _ _ us hl => match us, hl with | [_, _, _], _ => rfl
  obtain ⟨D41⟩ := LH.df_of (ps := ["stream", "rows", "share", "sure"]) X G c 41 41 (x := "_law_sides") (st := s_law_sides) rfl rfl fun _ _ _ _ _ _ us hl => match us, hl with | [_, _, _, _], _ => rfl
  obtain ⟨D42⟩ := LH.df_of (ps := ["stream", "logic", "rule"]) X G c 42 42 (x := "_law_single") (st := s_law_single) rfl rfl fun _ _ _ _ _ _ us hl => match us, hl with | [_, _, _], _ => rfl
  obtain ⟨D43⟩ := LH.df_of (ps := ["script"]) X G c 43 43 (x := "law") (st := s_law) rfl rfl fun _ _ _ _ _ _ us hl => match us, hl with | [_], _ => rfl
  obtain ⟨esI, nI, kI⟩ := cx.t.tab 0 (t := (fun K => He.ga K "ITEMS", ["letter", "no", "and", "or", "if", "box"])) rfl
  obtain ⟨es1, nn1, kd1⟩ := cx.t.tab 1 (t := (fun K => He.ga K "COUNTS", ["axiom", "no", "given", "and left", "or left", "if left", "box left", "and right", "or right", "if right", "box", "cut"])) rfl
  obtain ⟨es2, nn2, kd2⟩ := cx.t.tab 2 (t := (fun K => He.ga K "LEFT_WORDS", ["and left", "or left", "if left", "box left"])) rfl
  obtain ⟨es3, nn3, kd3⟩ := cx.t.tab 3 (t := (fun K => He.ga K "RIGHT_WORDS", ["and right", "or right", "if right", "box"])) rfl
  have T : Txt K mg := ⟨He.free_ok X G (c.fact 44 rfl), He.free_ok X G (c.fact 45 rfl), He.free_ok X G (c.fact 46 rfl), He.free_ok X G (c.fact 47 rfl), He.free_ok X G (c.fact 48 rfl), He.free_ok X G (c.fact 49 rfl), He.free_ok X G (c.fact 50 rfl), He.free_ok X G (c.fact 51 rfl), He.free_ok X G (c.fact 52 rfl), He.free_ok X G (c.fact 53 rfl), He.free_ok X G (c.fact 54 rfl), He.free_ok X G (c.fact 55 rfl), He.free_ok X G (c.fact 56 rfl), He.free_ok X G (c.fact 57 rfl), He.free_ok X G (c.fact 58 rfl), He.free_ok X G (c.fact 59 rfl), He.free_ok X G (c.fact 60 rfl)⟩
  have C : Con K mg w := ⟨⟨_, esI, nI, He.glo_ok X G (c.fact 61 rfl), kI, LH.items_at (LH.allB_at cx.more 0 rfl)⟩, LH.int_of X G c 62 rfl, LH.int_of X G c 63 rfl, LH.sqT_lit X G (c.fact 64 rfl) (LH.allB_at cx.more 1 rfl), LH.sqT_lit X G (c.fact 65 rfl) (LH.allB_at cx.more 2 rfl), LH.tabI_mk X G (c.fact 66 rfl) kd1 (LH.allB_at cx.more 3 rfl), LH.tabS_mk X G (c.fact 67 rfl) kd2 (LH.allB_at cx.more 4 rfl), LH.tabS_mk X G (c.fact 68 rfl) kd3 (LH.allB_at cx.more 5 rfl)⟩
  let A : All K mg w := ⟨T, C, W, D0, D1, D2, D3, D4, D5, D6, D7, D8, D9, D10, D11, D12, D13, D14, D15, D16, D17, D18, D19, D20, D21, D22, D23, D24, D25, D26, D27, D28, D29, D30, D31, D32, D33, D34, D35, D36, D37, D38, D39, D40, D41, D42, D43⟩
  obtain ⟨fdRules0, FRules0, BRules0⟩ := LH.me_of (ps := ["self", "logic", "sheet", "theory"]) c 44 (C := "Rules") (m := "__init__") (q := "Rules.__init__") (st := s_Rules_init) rfl fun _ _ _ _ _ _ us hl => match us, hl with | [_, _, _, _], _ => rfl
  obtain ⟨fdRules1, FRules1, BRules1⟩ := LH.me_of (ps := ["self", "line"]) c 45 (C := "Rules") (m := "asks_main") (q := "Rules.asks_main") (st := s_Rules_asks_main) rfl fun _ _ _ _ _ _ us hl => match us, hl with | [_, _], _ => rfl
  obtain ⟨fdRules2, FRules2, BRules2⟩ := LH.me_of (ps := ["self", "left", "main"]) c 46 (C := "Rules") (m := "box_room") (q := "Rules.box_room") (st := s_Rules_box_room) rfl fun _ _ _ _ _ _ us hl => match us, hl with | [_, _, _], _ => rfl
  obtain ⟨fdRules3, FRules3, BRules3⟩ := LH.me_of (ps := ["self", "line"]) c 47 (C := "Rules") (m := "rooms") (q := "Rules.rooms") (st := s_Rules_rooms) rfl fun _ _ _ _ _ _ us hl => match us, hl with | [_, _], _ => rfl
  obtain ⟨fdRules4, FRules4, BRules4⟩ := LH.me_of (ps := ["self", "line", "lines"]) c 48 (C := "Rules") (m := "is_right") (q := "Rules.is_right") (st := s_Rules_is_right) rfl fun _ _ _ _ _ _ us hl => match us, hl with | [_, _, _], _ => rfl
  let GR : Rul K mg := ⟨He.ga K "Rules", _, _, _, _, _, fdRules0, fdRules1, fdRules2, fdRules3, fdRules4, He.glo_ok X G (c.fact 69 rfl), He.cls_ok (c.fact 70 rfl), He.noat_ok (c.fact 71 rfl), He.noat_ok (c.fact 72 rfl), He.noat_ok (c.fact 73 rfl), He.mkr_ok (c.fact 74 rfl), He.meth_ok (c.fact 75 rfl), He.meth_ok (c.fact 76 rfl), He.meth_ok (c.fact 77 rfl), He.meth_ok (c.fact 78 rfl), FRules0, FRules1, FRules2, FRules3, FRules4, BRules0, BRules1, BRules2, BRules3, BRules4⟩
  let Z : Exs K mg := ⟨He.ga K "CourtError", fun n => He.ga K n, He.glo_ok X G (c.fact 79 rfl), fun n hn => by
    simp only [allNames, List.mem_cons, List.not_mem_nil, or_false] at hn
    rcases hn with h | h | h | h
    · subst h; exact He.glo_ok X G (c.fact 80 rfl)
    · subst h; exact He.glo_ok X G (c.fact 81 rfl)
    · subst h; exact He.glo_ok X G (c.fact 82 rfl)
    · subst h; exact He.glo_ok X G (c.fact 83 rfl)⟩
  have qBadLogic := He.exc_ok (c.fact 84 rfl)
  have Z_BadLogic : Er_BadLogic Z := ⟨qBadLogic.1, qBadLogic.2.1, qBadLogic.2.2.1, qBadLogic.2.2.2⟩
  have iBadSheet := LH.iniB_ok (LH.allB_at cx.more 6 rfl)
  obtain ⟨fdBadSheet, FBadSheet, BBadSheet⟩ := LH.me_of (ps := ["self", "row"]) c 49 (C := "BadSheet") (m := "__init__") (q := "BadSheet.__init__") (st := s_BadSheet) rfl fun _ _ _ _ _ _ us hl => match us, hl with | [_, _], _ => rfl
  have Z_BadSheet : Er_BadSheet Z := ⟨iBadSheet.O, _, fdBadSheet, iBadSheet.I, iBadSheet.T, FBadSheet, BBadSheet, iBadSheet.X, iBadSheet.A "row" (by simp)⟩
  have iBadClaim := LH.iniB_ok (LH.allB_at cx.more 7 rfl)
  obtain ⟨fdBadClaim, FBadClaim, BBadClaim⟩ := LH.me_of (ps := ["self", "word"]) c 50 (C := "BadClaim") (m := "__init__") (q := "BadClaim.__init__") (st := s_BadClaim) rfl fun _ _ _ _ _ _ us hl => match us, hl with | [_, _], _ => rfl
  have Z_BadClaim : Er_BadClaim Z := ⟨iBadClaim.O, _, fdBadClaim, iBadClaim.I, iBadClaim.T, FBadClaim, BBadClaim, iBadClaim.X, iBadClaim.A "word" (by simp)⟩
  have iBadValue := LH.iniB_ok (LH.allB_at cx.more 8 rfl)
  obtain ⟨fdBadValue, FBadValue, BBadValue⟩ := LH.me_of (ps := ["self", "name"]) c 51 (C := "BadValue") (m := "__init__") (q := "BadValue.__init__") (st := s_BadValue) rfl fun _ _ _ _ _ _ us hl => match us, hl with | [_, _], _ => rfl
  have Z_BadValue : Er_BadValue Z := ⟨iBadValue.O, _, fdBadValue, iBadValue.I, iBadValue.T, FBadValue, BBadValue, iBadValue.X, iBadValue.A "name" (by simp)⟩
  have e := hfa.symm.trans A.law.m
  cases e
  exact ⟨A.law.fd, fun s v => (A.law.F.ex.elim fun _ z => z.elim fun _ z => z.elim fun _ z => z.elim fun _ z => z.elim fun _ z => z.elim fun _ z => z.elim fun _ z => z.elim fun _ z => z.elim fun _ z => by rw [z.1]; exact .of_eq rfl), fun base _ _ => ok_law A GR Z Z_BadLogic Z_BadSheet Z_BadClaim Z_BadValue⟩
end K12
open PySem PySem.W PySem.Calls PyProof.Rows
set_option maxRecDepth 100000 in
set_option maxHeartbeats 0 in
theorem PySem.Challenge.cw_provedorshown_k12_single_lines_holds : PySem.Challenge.rw_provedorshown_k12_single_lines.Holds := by
  refine K12.hEnd ?hc
  case hc =>
    refine L2.walk_ofE (l := PySem.Challenge.rw_provedorshown_k12_single_lines) (n := 63) (k := 12) (x := "script") (CX := L2.CX0) rfl (by decide) (by kernel_rfl) ⟨rfl, by decide, by decide⟩ ?F (fun _ _ _ _ z => z)
    intro w mg fa h Y G hmg0
    obtain ⟨K, KX, c⟩ := Y
    have hmg : mg ("law" : PySem.Str) = some (.ref fa) := by
      rw [← K12.hName]
      exact hmg0
    obtain ⟨fd, hb, hF⟩ := K12.all_mk (P := (PySem.Challenge.rw_provedorshown_k12_single_lines).prog) (w := w) KX G hmg c
    exact ⟨K, fd, K12.spLaw K, KX, hb, fun H a ns hl _ hS => ⟨a, ns, rfl, hS, hl, fun _ => rfl⟩, hF⟩


